/- The plain functions on lists and numbers that the contracts name, and what holds of them; no condition. -/
import Derived.Test.YtjpoipdddpmeiaaGreatLib2
namespace Go.Proofs.YtjpoipdddpmeiaaGreat
open Go Go.Proofs.YtjpoipdddpmeiaaGreat.X
def X0 {α : Type} (f : α → Nat) (xs : List α) : Nat:=xs.length + (xs.map f).sum
structure Stamp where
 epoch : Int
 turn : Int
 deriving DecidableEq,Inhabited
instance : Enc Stamp:=⟨fun x=>[.int .i64 x.epoch,.int .i64 x.turn],2,fun _=>rfl,fun _=>rfl,by decide⟩
structure Record where
 op : Int
 stamp : Stamp
 key : Int
 val : Int
 deriving DecidableEq,Inhabited
instance : Enc Record:=⟨fun x=>[.int .i64 x.op,.int .i64 x.stamp.epoch,.int .i64 x.stamp.turn,.int .i64 x.key,.int .i64 x.val],5,fun _=>rfl,fun _=>rfl,by decide⟩
structure Cell where
 op : Int
 epoch : Int
 key : Int
 val : Int
 deriving DecidableEq,Inhabited
instance : Enc Cell:=⟨fun x=>[.int .i64 x.op,.int .i64 x.epoch,.int .i64 x.key,.int .i64 x.val],4,fun _=>rfl,fun _=>rfl,by decide⟩
structure Done where
 epoch : Int
 capped : Bool
 deriving DecidableEq,Inhabited
instance : Enc Done:=⟨fun x=>[.int .i64 x.epoch,.bool x.capped],2,fun _=>rfl,fun _=>rfl,by decide⟩
structure Token where
 going : Bool
 place : Int
 sum : Int
 black : Bool
 capped : Bool
 deriving DecidableEq,Inhabited
instance : Enc Token:=⟨fun x=>[.bool x.going,.int .i64 x.place,.int .i64 x.sum,.bool x.black,.bool x.capped],5,fun _=>rfl,fun _=>rfl,by decide⟩
structure News where
 dest : Int
 epoch : Int
 capped : Bool
 deriving DecidableEq,Inhabited
instance : Enc News:=⟨fun x=>[.int .i64 x.dest,.int .i64 x.epoch,.bool x.capped],3,fun _=>rfl,fun _=>rfl,by decide⟩
structure Count where
 stamp : Stamp
 n : Int
 deriving DecidableEq,Inhabited
instance : Enc Count:=⟨fun x=>[.int .i64 x.stamp.epoch,.int .i64 x.stamp.turn,.int .i64 x.n],3,fun _=>rfl,fun _=>rfl,by decide⟩
structure Node where
 kind : Int
 a : Int
 b : Int
 outs : List Int
 deriving DecidableEq,Inhabited
instance : Dat Node:=⟨4,fun w lo hi cs x=>∃ o1,cs = [.int .i64 x.kind,.int .i64 x.a,.int .i64 x.b,o1] ∧ RdD w lo hi o1 x.outs,by decide,fun h=>by obtain ⟨o1,rfl,h1⟩:=h;exact rfl,fun h=>by obtain ⟨o1,rfl,h1⟩:=h;exact Qj rfl (Qj rfl (Qj rfl (Qj (RdD.one h1) (rfl)))),fun h s=>by obtain ⟨o1,rfl,h1⟩:=h;exact ⟨o1,rfl,RdD.same h1 s⟩,fun h a b=>by obtain ⟨o1,rfl,h1⟩:=h;exact ⟨o1,rfl,RdD.widen h1 a b⟩,fun h=>by obtain ⟨o1,rfl,h1⟩:=h;exact ⟨o1,rfl,RdD.any h1⟩⟩
theorem Node.op {w : World} {lo hi : Nat} {cs : List Value} {x : Node} (h : Dat.R w lo hi cs x) : ∃ o1,cs = [.int .i64 x.kind,.int .i64 x.a,.int .i64 x.b,o1] ∧ RdD w lo hi o1 x.outs:=h
theorem Node.mkR {w : World} {lo hi : Nat} {o1 : Value} (x : Node) (h1 : RdD w lo hi o1 x.outs) : Dat.R w lo hi [.int .i64 x.kind,.int .i64 x.a,.int .i64 x.b,o1] x:=⟨o1,rfl,h1⟩
def Xy (x : Node) : Nat:=x.outs.length
structure Graph where
 nodes : List Node
 workers : Int
 cap : Int
 deriving DecidableEq,Inhabited
instance : Dat Graph:=⟨3,fun w lo hi cs x=>∃ o1,cs = [o1,.int .i64 x.workers,.int .i64 x.cap] ∧ RdD w lo hi o1 x.nodes,by decide,fun h=>by obtain ⟨o1,rfl,h1⟩:=h;exact rfl,fun h=>by obtain ⟨o1,rfl,h1⟩:=h;exact Qj (RdD.one h1) (Qj rfl (Qj rfl (rfl))),fun h s=>by obtain ⟨o1,rfl,h1⟩:=h;exact ⟨o1,rfl,RdD.same h1 s⟩,fun h a b=>by obtain ⟨o1,rfl,h1⟩:=h;exact ⟨o1,rfl,RdD.widen h1 a b⟩,fun h=>by obtain ⟨o1,rfl,h1⟩:=h;exact ⟨o1,rfl,RdD.any h1⟩⟩
theorem Graph.op {w : World} {lo hi : Nat} {cs : List Value} {x : Graph} (h : Dat.R w lo hi cs x) : ∃ o1,cs = [o1,.int .i64 x.workers,.int .i64 x.cap] ∧ RdD w lo hi o1 x.nodes:=h
theorem Graph.mkR {w : World} {lo hi : Nat} {o1 : Value} (x : Graph) (h1 : RdD w lo hi o1 x.nodes) : Dat.R w lo hi [o1,.int .i64 x.workers,.int .i64 x.cap] x:=⟨o1,rfl,h1⟩
def Xe (x : Graph) : Nat:=X0 Xy x.nodes
structure Worker where
 queue : List Record
 staged : List Record
 inputs : List Record
 cells : List Cell
 sums : List Int
 black : List Bool
 caps : List Bool
 dones : List Done
 deriving DecidableEq,Inhabited
instance : Dat Worker:=⟨8,fun w lo hi cs x=>∃ o1 o2 o3 o4 o5 o6 o7 o8,cs = [o1,o2,o3,o4,o5,o6,o7,o8] ∧ RdD w lo hi o1 x.queue ∧ RdD w lo hi o2 x.staged ∧ RdD w lo hi o3 x.inputs ∧ RdD w lo hi o4 x.cells ∧ RdD w lo hi o5 x.sums ∧ RdD w lo hi o6 x.black ∧ RdD w lo hi o7 x.caps ∧ RdD w lo hi o8 x.dones,by decide,fun h=>by obtain ⟨o1,o2,o3,o4,o5,o6,o7,o8,rfl,h1,h2,h3,h4,h5,h6,h7,h8⟩:=h;exact rfl,fun h=>by obtain ⟨o1,o2,o3,o4,o5,o6,o7,o8,rfl,h1,h2,h3,h4,h5,h6,h7,h8⟩:=h;exact Qj (RdD.one h1) (Qj (RdD.one h2) (Qj (RdD.one h3) (Qj (RdD.one h4) (Qj (RdD.one h5) (Qj (RdD.one h6) (Qj (RdD.one h7) (Qj (RdD.one h8) (rfl)))))))),fun h s=>by obtain ⟨o1,o2,o3,o4,o5,o6,o7,o8,rfl,h1,h2,h3,h4,h5,h6,h7,h8⟩:=h;exact ⟨o1,o2,o3,o4,o5,o6,o7,o8,rfl,RdD.same h1 s,RdD.same h2 s,RdD.same h3 s,RdD.same h4 s,RdD.same h5 s,RdD.same h6 s,RdD.same h7 s,RdD.same h8 s⟩,fun h a b=>by obtain ⟨o1,o2,o3,o4,o5,o6,o7,o8,rfl,h1,h2,h3,h4,h5,h6,h7,h8⟩:=h;exact ⟨o1,o2,o3,o4,o5,o6,o7,o8,rfl,RdD.widen h1 a b,RdD.widen h2 a b,RdD.widen h3 a b,RdD.widen h4 a b,RdD.widen h5 a b,RdD.widen h6 a b,RdD.widen h7 a b,RdD.widen h8 a b⟩,fun h=>by obtain ⟨o1,o2,o3,o4,o5,o6,o7,o8,rfl,h1,h2,h3,h4,h5,h6,h7,h8⟩:=h;exact ⟨o1,o2,o3,o4,o5,o6,o7,o8,rfl,RdD.any h1,RdD.any h2,RdD.any h3,RdD.any h4,RdD.any h5,RdD.any h6,RdD.any h7,RdD.any h8⟩⟩
theorem Worker.op {w : World} {lo hi : Nat} {cs : List Value} {x : Worker} (h : Dat.R w lo hi cs x) : ∃ o1 o2 o3 o4 o5 o6 o7 o8,cs = [o1,o2,o3,o4,o5,o6,o7,o8] ∧ RdD w lo hi o1 x.queue ∧ RdD w lo hi o2 x.staged ∧ RdD w lo hi o3 x.inputs ∧ RdD w lo hi o4 x.cells ∧ RdD w lo hi o5 x.sums ∧ RdD w lo hi o6 x.black ∧ RdD w lo hi o7 x.caps ∧ RdD w lo hi o8 x.dones:=h
theorem Worker.mkR {w : World} {lo hi : Nat} {o1 o2 o3 o4 o5 o6 o7 o8 : Value} (x : Worker) (h1 : RdD w lo hi o1 x.queue) (h2 : RdD w lo hi o2 x.staged) (h3 : RdD w lo hi o3 x.inputs) (h4 : RdD w lo hi o4 x.cells) (h5 : RdD w lo hi o5 x.sums) (h6 : RdD w lo hi o6 x.black) (h7 : RdD w lo hi o7 x.caps) (h8 : RdD w lo hi o8 x.dones) : Dat.R w lo hi [o1,o2,o3,o4,o5,o6,o7,o8] x:=⟨o1,o2,o3,o4,o5,o6,o7,o8,rfl,h1,h2,h3,h4,h5,h6,h7,h8⟩
def Q7 (x : Worker) : Nat:=x.queue.length + x.staged.length + x.inputs.length + x.cells.length + x.sums.length + x.black.length + x.caps.length + x.dones.length
structure Link where
 cap : Int
 queue : List Record
 credits : Int
 back : Int
 sent : Int
 got : Int
 deriving DecidableEq,Inhabited
instance : Dat Link:=⟨6,fun w lo hi cs x=>∃ o1,cs = [.int .i64 x.cap,o1,.int .i64 x.credits,.int .i64 x.back,.int .i64 x.sent,.int .i64 x.got] ∧ RdD w lo hi o1 x.queue,by decide,fun h=>by obtain ⟨o1,rfl,h1⟩:=h;exact rfl,fun h=>by obtain ⟨o1,rfl,h1⟩:=h;exact Qj rfl (Qj (RdD.one h1) (Qj rfl (Qj rfl (Qj rfl (Qj rfl (rfl)))))),fun h s=>by obtain ⟨o1,rfl,h1⟩:=h;exact ⟨o1,rfl,RdD.same h1 s⟩,fun h a b=>by obtain ⟨o1,rfl,h1⟩:=h;exact ⟨o1,rfl,RdD.widen h1 a b⟩,fun h=>by obtain ⟨o1,rfl,h1⟩:=h;exact ⟨o1,rfl,RdD.any h1⟩⟩
theorem Link.op {w : World} {lo hi : Nat} {cs : List Value} {x : Link} (h : Dat.R w lo hi cs x) : ∃ o1,cs = [.int .i64 x.cap,o1,.int .i64 x.credits,.int .i64 x.back,.int .i64 x.sent,.int .i64 x.got] ∧ RdD w lo hi o1 x.queue:=h
theorem Link.mkR {w : World} {lo hi : Nat} {o1 : Value} (x : Link) (h1 : RdD w lo hi o1 x.queue) : Dat.R w lo hi [.int .i64 x.cap,o1,.int .i64 x.credits,.int .i64 x.back,.int .i64 x.sent,.int .i64 x.got] x:=⟨o1,rfl,h1⟩
def Y5 (x : Link) : Nat:=x.queue.length
structure Cluster where
 graph : Graph
 workers : List Worker
 links : List Link
 tokens : List Token
 news : List News
 deriving DecidableEq,Inhabited
instance : Dat Cluster:=⟨7,fun w lo hi cs x=>∃ o1 o2 o3 o4 o5,cs = [o1,.int .i64 x.graph.workers,.int .i64 x.graph.cap,o2,o3,o4,o5] ∧ RdD w lo hi o1 x.graph.nodes ∧ RdD w lo hi o2 x.workers ∧ RdD w lo hi o3 x.links ∧ RdD w lo hi o4 x.tokens ∧ RdD w lo hi o5 x.news,by decide,fun h=>by obtain ⟨o1,o2,o3,o4,o5,rfl,h1,h2,h3,h4,h5⟩:=h;exact rfl,fun h=>by obtain ⟨o1,o2,o3,o4,o5,rfl,h1,h2,h3,h4,h5⟩:=h;exact Qj (RdD.one h1) (Qj rfl (Qj rfl (Qj (RdD.one h2) (Qj (RdD.one h3) (Qj (RdD.one h4) (Qj (RdD.one h5) (rfl))))))),fun h s=>by obtain ⟨o1,o2,o3,o4,o5,rfl,h1,h2,h3,h4,h5⟩:=h;exact ⟨o1,o2,o3,o4,o5,rfl,RdD.same h1 s,RdD.same h2 s,RdD.same h3 s,RdD.same h4 s,RdD.same h5 s⟩,fun h a b=>by obtain ⟨o1,o2,o3,o4,o5,rfl,h1,h2,h3,h4,h5⟩:=h;exact ⟨o1,o2,o3,o4,o5,rfl,RdD.widen h1 a b,RdD.widen h2 a b,RdD.widen h3 a b,RdD.widen h4 a b,RdD.widen h5 a b⟩,fun h=>by obtain ⟨o1,o2,o3,o4,o5,rfl,h1,h2,h3,h4,h5⟩:=h;exact ⟨o1,o2,o3,o4,o5,rfl,RdD.any h1,RdD.any h2,RdD.any h3,RdD.any h4,RdD.any h5⟩⟩
theorem Cluster.op {w : World} {lo hi : Nat} {cs : List Value} {x : Cluster} (h : Dat.R w lo hi cs x) : ∃ o1 o2 o3 o4 o5,cs = [o1,.int .i64 x.graph.workers,.int .i64 x.graph.cap,o2,o3,o4,o5] ∧ RdD w lo hi o1 x.graph.nodes ∧ RdD w lo hi o2 x.workers ∧ RdD w lo hi o3 x.links ∧ RdD w lo hi o4 x.tokens ∧ RdD w lo hi o5 x.news:=h
theorem Cluster.mkR {w : World} {lo hi : Nat} {o1 o2 o3 o4 o5 : Value} (x : Cluster) (h1 : RdD w lo hi o1 x.graph.nodes) (h2 : RdD w lo hi o2 x.workers) (h3 : RdD w lo hi o3 x.links) (h4 : RdD w lo hi o4 x.tokens) (h5 : RdD w lo hi o5 x.news) : Dat.R w lo hi [o1,.int .i64 x.graph.workers,.int .i64 x.graph.cap,o2,o3,o4,o5] x:=⟨o1,o2,o3,o4,o5,rfl,h1,h2,h3,h4,h5⟩
def Yb (x : Cluster) : Nat:=Xe x.graph + X0 Q7 x.workers + X0 Y5 x.links + x.tokens.length + x.news.length
instance : Own1 Node:={ (inferInstance : Dat Node) with
 O:=fun w lo hi cs x=>∃ o1,cs = [.int .i64 x.kind,.int .i64 x.a,.int .i64 x.b,o1] ∧ SepL [o1] ∧ Own w lo hi 1 o1 (List.flatMap (Enc.enc (α:=Int)) x.outs)
 rd:=fun ⟨o1,e,s,h1⟩=>⟨o1,e,h1.rdD⟩
 kp:=fun ⟨o1,e,s,h1⟩ k=>⟨o1,e,s,h1.kp (k.sub (Xi (by rw [e];simp)))⟩
 wide:=fun ⟨o1,e,s,h1⟩ a b=>⟨o1,e,s,h1.widen a b⟩
 inn:=by rintro w lo hi cs x ⟨o1,rfl,s,h1⟩;exact FpA.all ⟨(fun _ h=>absurd h List.not_mem_nil),(fun _ h=>absurd h List.not_mem_nil),(fun _ h=>absurd h List.not_mem_nil),h1.innb,trivial⟩
 nd:=by rintro w lo hi cs x ⟨o1,rfl,s,h1⟩;exact (show (Uw [o1]).Nodup from SepL.nd s) }
theorem Node.opO {w : World} {lo hi : Nat} {cs : List Value} {x : Node} (h : Own1.O w lo hi cs x) : ∃ o1,cs = [.int .i64 x.kind,.int .i64 x.a,.int .i64 x.b,o1] ∧ SepL [o1] ∧ Own w lo hi 1 o1 (List.flatMap (Enc.enc (α:=Int)) x.outs):=h
theorem Node.mkO {w : World} {lo hi : Nat} {o1 : Value} (x : Node) (s : SepL [o1]) (h1 : Own w lo hi 1 o1 (List.flatMap (Enc.enc (α:=Int)) x.outs)) : Own1.O w lo hi [.int .i64 x.kind,.int .i64 x.a,.int .i64 x.b,o1] x:=⟨o1,rfl,s,h1⟩
instance : Own1 Worker:={ (inferInstance : Dat Worker) with
 O:=fun w lo hi cs x=>∃ o1 o2 o3 o4 o5 o6 o7 o8,cs = [o1,o2,o3,o4,o5,o6,o7,o8] ∧ SepL [o1,o2,o3,o4,o5,o6,o7,o8] ∧ Own w lo hi 5 o1 (List.flatMap (Enc.enc (α:=Record)) x.queue) ∧ Own w lo hi 5 o2 (List.flatMap (Enc.enc (α:=Record)) x.staged) ∧ Own w lo hi 5 o3 (List.flatMap (Enc.enc (α:=Record)) x.inputs) ∧ Own w lo hi 4 o4 (List.flatMap (Enc.enc (α:=Cell)) x.cells) ∧ Own w lo hi 1 o5 (List.flatMap (Enc.enc (α:=Int)) x.sums) ∧ Own w lo hi 1 o6 (List.flatMap (Enc.enc (α:=Bool)) x.black) ∧ Own w lo hi 1 o7 (List.flatMap (Enc.enc (α:=Bool)) x.caps) ∧ Own w lo hi 2 o8 (List.flatMap (Enc.enc (α:=Done)) x.dones)
 rd:=fun ⟨o1,o2,o3,o4,o5,o6,o7,o8,e,s,h1,h2,h3,h4,h5,h6,h7,h8⟩=>⟨o1,o2,o3,o4,o5,o6,o7,o8,e,h1.rdD,h2.rdD,h3.rdD,h4.rdD,h5.rdD,h6.rdD,h7.rdD,h8.rdD⟩
 kp:=fun ⟨o1,o2,o3,o4,o5,o6,o7,o8,e,s,h1,h2,h3,h4,h5,h6,h7,h8⟩ k=>⟨o1,o2,o3,o4,o5,o6,o7,o8,e,s,h1.kp (k.sub (Xi (by rw [e];simp))),h2.kp (k.sub (Xi (by rw [e];simp))),h3.kp (k.sub (Xi (by rw [e];simp))),h4.kp (k.sub (Xi (by rw [e];simp))),h5.kp (k.sub (Xi (by rw [e];simp))),h6.kp (k.sub (Xi (by rw [e];simp))),h7.kp (k.sub (Xi (by rw [e];simp))),h8.kp (k.sub (Xi (by rw [e];simp)))⟩
 wide:=fun ⟨o1,o2,o3,o4,o5,o6,o7,o8,e,s,h1,h2,h3,h4,h5,h6,h7,h8⟩ a b=>⟨o1,o2,o3,o4,o5,o6,o7,o8,e,s,h1.widen a b,h2.widen a b,h3.widen a b,h4.widen a b,h5.widen a b,h6.widen a b,h7.widen a b,h8.widen a b⟩
 inn:=by rintro w lo hi cs x ⟨o1,o2,o3,o4,o5,o6,o7,o8,rfl,s,h1,h2,h3,h4,h5,h6,h7,h8⟩;exact FpA.all ⟨h1.innb,h2.innb,h3.innb,h4.innb,h5.innb,h6.innb,h7.innb,h8.innb,trivial⟩
 nd:=by rintro w lo hi cs x ⟨o1,o2,o3,o4,o5,o6,o7,o8,rfl,s,h1,h2,h3,h4,h5,h6,h7,h8⟩;exact (show (Uw [o1,o2,o3,o4,o5,o6,o7,o8]).Nodup from SepL.nd s) }
theorem Worker.opO {w : World} {lo hi : Nat} {cs : List Value} {x : Worker} (h : Own1.O w lo hi cs x) : ∃ o1 o2 o3 o4 o5 o6 o7 o8,cs = [o1,o2,o3,o4,o5,o6,o7,o8] ∧ SepL [o1,o2,o3,o4,o5,o6,o7,o8] ∧ Own w lo hi 5 o1 (List.flatMap (Enc.enc (α:=Record)) x.queue) ∧ Own w lo hi 5 o2 (List.flatMap (Enc.enc (α:=Record)) x.staged) ∧ Own w lo hi 5 o3 (List.flatMap (Enc.enc (α:=Record)) x.inputs) ∧ Own w lo hi 4 o4 (List.flatMap (Enc.enc (α:=Cell)) x.cells) ∧ Own w lo hi 1 o5 (List.flatMap (Enc.enc (α:=Int)) x.sums) ∧ Own w lo hi 1 o6 (List.flatMap (Enc.enc (α:=Bool)) x.black) ∧ Own w lo hi 1 o7 (List.flatMap (Enc.enc (α:=Bool)) x.caps) ∧ Own w lo hi 2 o8 (List.flatMap (Enc.enc (α:=Done)) x.dones):=h
theorem Worker.mkO {w : World} {lo hi : Nat} {o1 o2 o3 o4 o5 o6 o7 o8 : Value} (x : Worker) (s : SepL [o1,o2,o3,o4,o5,o6,o7,o8]) (h1 : Own w lo hi 5 o1 (List.flatMap (Enc.enc (α:=Record)) x.queue)) (h2 : Own w lo hi 5 o2 (List.flatMap (Enc.enc (α:=Record)) x.staged)) (h3 : Own w lo hi 5 o3 (List.flatMap (Enc.enc (α:=Record)) x.inputs)) (h4 : Own w lo hi 4 o4 (List.flatMap (Enc.enc (α:=Cell)) x.cells)) (h5 : Own w lo hi 1 o5 (List.flatMap (Enc.enc (α:=Int)) x.sums)) (h6 : Own w lo hi 1 o6 (List.flatMap (Enc.enc (α:=Bool)) x.black)) (h7 : Own w lo hi 1 o7 (List.flatMap (Enc.enc (α:=Bool)) x.caps)) (h8 : Own w lo hi 2 o8 (List.flatMap (Enc.enc (α:=Done)) x.dones)) : Own1.O w lo hi [o1,o2,o3,o4,o5,o6,o7,o8] x:=⟨o1,o2,o3,o4,o5,o6,o7,o8,rfl,s,h1,h2,h3,h4,h5,h6,h7,h8⟩
instance : Own1 Link:={ (inferInstance : Dat Link) with
 O:=fun w lo hi cs x=>∃ o1,cs = [.int .i64 x.cap,o1,.int .i64 x.credits,.int .i64 x.back,.int .i64 x.sent,.int .i64 x.got] ∧ SepL [o1] ∧ Own w lo hi 5 o1 (List.flatMap (Enc.enc (α:=Record)) x.queue)
 rd:=fun ⟨o1,e,s,h1⟩=>⟨o1,e,h1.rdD⟩
 kp:=fun ⟨o1,e,s,h1⟩ k=>⟨o1,e,s,h1.kp (k.sub (Xi (by rw [e];simp)))⟩
 wide:=fun ⟨o1,e,s,h1⟩ a b=>⟨o1,e,s,h1.widen a b⟩
 inn:=by rintro w lo hi cs x ⟨o1,rfl,s,h1⟩;exact FpA.all ⟨(fun _ h=>absurd h List.not_mem_nil),h1.innb,(fun _ h=>absurd h List.not_mem_nil),(fun _ h=>absurd h List.not_mem_nil),(fun _ h=>absurd h List.not_mem_nil),(fun _ h=>absurd h List.not_mem_nil),trivial⟩
 nd:=by rintro w lo hi cs x ⟨o1,rfl,s,h1⟩;exact (show (Uw [o1]).Nodup from SepL.nd s) }
theorem Link.opO {w : World} {lo hi : Nat} {cs : List Value} {x : Link} (h : Own1.O w lo hi cs x) : ∃ o1,cs = [.int .i64 x.cap,o1,.int .i64 x.credits,.int .i64 x.back,.int .i64 x.sent,.int .i64 x.got] ∧ SepL [o1] ∧ Own w lo hi 5 o1 (List.flatMap (Enc.enc (α:=Record)) x.queue):=h
theorem Link.mkO {w : World} {lo hi : Nat} {o1 : Value} (x : Link) (s : SepL [o1]) (h1 : Own w lo hi 5 o1 (List.flatMap (Enc.enc (α:=Record)) x.queue)) : Own1.O w lo hi [.int .i64 x.cap,o1,.int .i64 x.credits,.int .i64 x.back,.int .i64 x.sent,.int .i64 x.got] x:=⟨o1,rfl,s,h1⟩
def okStamp (x : Stamp) : Prop:=(rg x.epoch) ∧ (rg x.turn)
def Ht (x : Record) : Prop:=(rg x.op) ∧ (okStamp x.stamp) ∧ (rg x.key) ∧ (rg x.val)
def okCell (x : Cell) : Prop:=(rg x.op) ∧ (rg x.epoch) ∧ (rg x.key) ∧ (rg x.val)
def okDone (x : Done) : Prop:=(rg x.epoch) ∧ (True)
def okToken (x : Token) : Prop:=(True) ∧ (rg x.place) ∧ (rg x.sum) ∧ (True) ∧ (True)
def okNews (x : News) : Prop:=(rg x.dest) ∧ (rg x.epoch) ∧ (True)
def okCount (x : Count) : Prop:=(okStamp x.stamp) ∧ (rg x.n)
def okNode (x : Node) : Prop:=(rg x.kind) ∧ (rg x.a) ∧ (rg x.b) ∧ (∀ y ∈ x.outs,rg y)
def okGraph (x : Graph) : Prop:=(∀ y ∈ x.nodes,okNode y) ∧ (rg x.workers) ∧ (rg x.cap)
def Bp (x : Worker) : Prop:=(∀ y ∈ x.queue,Ht y) ∧ (∀ y ∈ x.staged,Ht y) ∧ (∀ y ∈ x.inputs,Ht y) ∧ (∀ y ∈ x.cells,okCell y) ∧ (∀ y ∈ x.sums,rg y) ∧ (∀ y ∈ x.black,True) ∧ (∀ y ∈ x.caps,True) ∧ (∀ y ∈ x.dones,okDone y)
def okLink (x : Link) : Prop:=(rg x.cap) ∧ (∀ y ∈ x.queue,Ht y) ∧ (rg x.credits) ∧ (rg x.back) ∧ (rg x.sent) ∧ (rg x.got)
def Dn (x : Cluster) : Prop:=(okGraph x.graph) ∧ (∀ y ∈ x.workers,Bp y) ∧ (∀ y ∈ x.links,okLink y) ∧ (∀ y ∈ x.tokens,okToken y) ∧ (∀ y ∈ x.news,okNews y)
section
variable {w w' : World} {lo hi lo' hi' : Nat} {o1 o2 o3 o4 o5 : Value} {x : Cluster} {y : Option Nat}
def OwC (w : World) (lo hi : Nat) (o1 o2 o3 o4 o5 : Value) (x : Cluster) : Prop :=
 ∃ f1 f2 f3,OwF w lo hi o1 x.graph.nodes f1 ∧ OwF w lo hi o2 x.workers f2 ∧ OwF w lo hi o3 x.links f3 ∧ Own w lo hi 5 o4 (List.flatMap (Enc.enc (α:=Token)) x.tokens) ∧ Own w lo hi 3 o5 (List.flatMap (Enc.enc (α:=News)) x.news) ∧ DjL [f1,f2,f3,Kc o4,Kc o5]
theorem OwC.same (h : OwC w lo hi o1 o2 o3 o4 o5 x) (s : Same w w' lo hi) : OwC w' lo hi o1 o2 o3 o4 o5 x:=by
 obtain ⟨f1,f2,f3,h1,h2,h3,h4,h5,sp⟩:=h
 exact ⟨f1,f2,f3,h1.same s,h2.same s,h3.same s,h4.kp ⟨s.size,fun b hb hl=>s.block b (h4.in2 b hb).1 (h4.in2 b hb).2 hl⟩,h5.kp ⟨s.size,fun b hb hl=>s.block b (h5.in2 b hb).1 (h5.in2 b hb).2 hl⟩,sp⟩
theorem OwC.ext (h : OwC w lo hi o1 o2 o3 o4 o5 x) (e : Ext w w') : OwC w' lo hi o1 o2 o3 o4 o5 x:=h.same (e.keeps (by simp))
theorem OwC.mod (h : OwC w lo hi o1 o2 o3 o4 o5 x) (m : Mod w w' y) (hx : ∀ g,y = some g → g < lo ∨ hi ≤ g) : OwC w' lo hi o1 o2 o3 o4 o5 x:=h.same (m.keeps hx)
theorem OwC.modR (h : OwC w lo hi o1 o2 o3 o4 o5 x) (m : ModR w w' lo' hi') (hx : hi ≤ lo' ∨ hi' ≤ lo) : OwC w' lo hi o1 o2 o3 o4 o5 x:=h.same (m.keeps hx)
theorem OwC.widen (h : OwC w lo hi o1 o2 o3 o4 o5 x) (a : lo' ≤ lo) (b : hi ≤ hi') : OwC w lo' hi' o1 o2 o3 o4 o5 x:=by
 obtain ⟨f1,f2,f3,h1,h2,h3,h4,h5,sp⟩:=h
 exact ⟨f1,f2,f3,h1.widen a b,h2.widen a b,h3.widen a b,h4.widen a b,h5.widen a b,sp⟩
theorem OwC.rd1 (h : OwC w lo hi o1 o2 o3 o4 o5 x) : RdD w lo hi o1 x.graph.nodes:=by obtain ⟨f1,f2,f3,h1,h2,h3,h4,h5,sp⟩:=h;exact h1.rd
theorem OwC.rd2 (h : OwC w lo hi o1 o2 o3 o4 o5 x) : RdD w lo hi o2 x.workers:=by obtain ⟨f1,f2,f3,h1,h2,h3,h4,h5,sp⟩:=h;exact h2.rd
theorem OwC.rd3 (h : OwC w lo hi o1 o2 o3 o4 o5 x) : RdD w lo hi o3 x.links:=by obtain ⟨f1,f2,f3,h1,h2,h3,h4,h5,sp⟩:=h;exact h3.rd
theorem OwC.rd4 (h : OwC w lo hi o1 o2 o3 o4 o5 x) : RdD w lo hi o4 x.tokens:=by obtain ⟨f1,f2,f3,h1,h2,h3,h4,h5,sp⟩:=h;exact h4.rdD
theorem OwC.rd5 (h : OwC w lo hi o1 o2 o3 o4 o5 x) : RdD w lo hi o5 x.news:=by obtain ⟨f1,f2,f3,h1,h2,h3,h4,h5,sp⟩:=h;exact h5.rdD
theorem OwC.setW {P : Program} {t i lo2 hi2 : Nat} {z cs : List Value} {y : Worker} (hT : StT P t (Dat.sz Worker) z) (h : OwC w lo hi o1 o2 o3 o4 o5 x) (hi' : i < x.workers.length) (ho : Own1.O w lo2 hi2 cs y) (hd : hi ≤ lo2) (hl : lo ≤ lo2) (hh : hi ≤ hi2) :
  ∃ w',(storeVar t ⟨Y6 o2,Y8 o2 + i * Dat.sz Worker,none⟩ (.agg cs.toArray)).run P w = .ok () w' ∧ Mod w w' o2.ownBlock ∧ OwC w' lo hi2 o1 o2 o3 o4 o5 { x with workers:=x.workers.set i y }:=by
 obtain ⟨f1,f2,f3,h1,h2,h3,h4,h5,⟨d1,d2,d3,d4,_⟩,⟨d5,d6,d7,_⟩,sp⟩:=h
 have far : ∀ {f : List Nat},(∀ b ∈ f,lo ≤ b ∧ b < hi) → Dj f (Uw cs):=fun hf b hb hc=>by have:=hf b hb;have:=Own1.inn ho b hc;omega
 obtain ⟨w',f',hr,hm,h2',kq,hin⟩:=h2.set hT hi' ho (far h2.in2) hl hh
 exact ⟨w',hr,hm,f1,f',f3,(h1.kp (kq.kp d1)).widen (Nat.le_refl _) hh,h2',(h3.kp (kq.kp d5.symm)).widen (Nat.le_refl _) hh,(h4.kp (kq.kp d6.symm)).widen (Nat.le_refl _) hh,(h5.kp (kq.kp d7.symm)).widen (Nat.le_refl _) hh,
  ⟨d1.grow hin (far h1.in2),d2,d3,d4,trivial⟩,⟨(d5.symm.grow hin (far h3.in2)).symm,(d6.symm.grow hin (far h4.in2)).symm,(d7.symm.grow hin (far h5.in2)).symm,trivial⟩,sp⟩
theorem OwC.setL {P : Program} {t i lo2 hi2 : Nat} {z cs : List Value} {y : Link} (hT : StT P t (Dat.sz Link) z) (h : OwC w lo hi o1 o2 o3 o4 o5 x) (hi' : i < x.links.length) (ho : Own1.O w lo2 hi2 cs y) (hd : hi ≤ lo2) (hl : lo ≤ lo2) (hh : hi ≤ hi2) :
  ∃ w',(storeVar t ⟨Y6 o3,Y8 o3 + i * Dat.sz Link,none⟩ (.agg cs.toArray)).run P w = .ok () w' ∧ Mod w w' o3.ownBlock ∧ OwC w' lo hi2 o1 o2 o3 o4 o5 { x with links:=x.links.set i y }:=by
 obtain ⟨f1,f2,f3,h1,h2,h3,h4,h5,⟨d1,d2,d3,d4,_⟩,⟨d5,d6,d7,_⟩,⟨d8,d9,_⟩,sp⟩:=h
 have far : ∀ {f : List Nat},(∀ b ∈ f,lo ≤ b ∧ b < hi) → Dj f (Uw cs):=fun hf b hb hc=>by have:=hf b hb;have:=Own1.inn ho b hc;omega
 obtain ⟨w',f',hr,hm,h3',kq,hin⟩:=h3.set hT hi' ho (far h3.in2) hl hh
 exact ⟨w',hr,hm,f1,f2,f',(h1.kp (kq.kp d2)).widen (Nat.le_refl _) hh,(h2.kp (kq.kp d5)).widen (Nat.le_refl _) hh,h3',(h4.kp (kq.kp d8.symm)).widen (Nat.le_refl _) hh,(h5.kp (kq.kp d9.symm)).widen (Nat.le_refl _) hh,
  ⟨d1,d2.grow hin (far h1.in2),d3,d4,trivial⟩,⟨d5.grow hin (far h2.in2),d6,d7,trivial⟩,⟨(d8.symm.grow hin (far h4.in2)).symm,(d9.symm.grow hin (far h5.in2)).symm,trivial⟩,sp⟩
theorem OwC.of2 (x : Cluster) {a b a2 b2 a3 b3 : Nat} {f1 : List Nat} (h1 : OwF w a b o1 x.graph.nodes f1) (h2 : OwS w a2 b2 o2 x.workers) (h3 : OwS w a3 b3 o3 x.links) (h4 : Own w a b 5 o4 (List.flatMap (Enc.enc (α:=Token)) x.tokens)) (h5 : Own w a b 3 o5 (List.flatMap (Enc.enc (α:=News)) x.news)) (dj : DjL [f1,Kc o4,Kc o5])
  (hb : lo ≤ a ∧ b ≤ hi ∧ lo ≤ a2 ∧ b2 ≤ hi ∧ lo ≤ a3 ∧ b3 ≤ hi) (hd : (b ≤ a2 ∨ b2 ≤ a) ∧ (b ≤ a3 ∨ b3 ≤ a) ∧ (b2 ≤ a3 ∨ b3 ≤ a2)) : OwC w lo hi o1 o2 o3 o4 o5 x:=by
 obtain ⟨f2,h2⟩:=h2.owf
 obtain ⟨f3,h3⟩:=h3.owf
 obtain ⟨p1,q1,p2,q2,p3,q3⟩:=hb
 obtain ⟨d1,d2,d5⟩:=hd
 obtain ⟨⟨e1,e2,_⟩,⟨e3,_⟩,_⟩:=dj
 exact ⟨f1,f2,f3,h1.widen p1 q1,h2.widen p2 q2,h3.widen p3 q3,h4.widen p1 q1,h5.widen p1 q1,
  ⟨Dj.apart h1.in2 h2.in2 d1,Dj.apart h1.in2 h3.in2 d2,e1,e2,trivial⟩,⟨Dj.apart h2.in2 h3.in2 d5,(Dj.apart h4.in2 h2.in2 d1).symm,(Dj.apart h5.in2 h2.in2 d1).symm,trivial⟩,
  ⟨(Dj.apart h4.in2 h3.in2 d2).symm,(Dj.apart h5.in2 h3.in2 d2).symm,trivial⟩,⟨e3,trivial⟩,trivial,trivial⟩
def OwR (w : World) (lo hi b : Nat) (o1 o2 o3 o4 o5 : Value) (x : Cluster) (ok : Bool) : Prop :=
 ∃ f1 f2 f3,Blk w b [o1,.int .i64 x.graph.workers,.int .i64 x.graph.cap,o2,o3,o4,o5,.bool ok] ∧ lo ≤ b ∧ OwF w lo hi o1 x.graph.nodes f1 ∧ OwF w lo hi o2 x.workers f2 ∧ OwF w lo hi o3 x.links f3 ∧ Own w lo hi 5 o4 (List.flatMap (Enc.enc (α:=Token)) x.tokens) ∧ Own w lo hi 3 o5 (List.flatMap (Enc.enc (α:=News)) x.news) ∧ DjL [f1,f2,f3,Kc o4,Kc o5,[b]]
theorem OwR.of {b : Nat} {ok : Bool} (h : OwC w lo hi o1 o2 o3 o4 o5 x) (hB : Blk w b [o1,.int .i64 x.graph.workers,.int .i64 x.graph.cap,o2,o3,o4,o5,.bool ok]) (hd : b < lo ∨ hi ≤ b) (h1 : lo' ≤ lo) (h2 : lo' ≤ b) (h3 : hi ≤ hi') : OwR w lo' hi' b o1 o2 o3 o4 o5 x ok:=by
 obtain ⟨f1,f2,f3,a1,a2,a3,a4,a5,⟨d1,d2,d3,d4,_⟩,⟨d5,d6,d7,_⟩,⟨d8,d9,_⟩,⟨d10,_⟩,_⟩:=h
 have far : ∀ {f : List Nat},(∀ y ∈ f,lo ≤ y ∧ y < hi) → Dj f [b]:=fun hf y hy hc=>by have:=hf y hy;simp at hc;omega
 exact ⟨f1,f2,f3,hB,h2,a1.widen h1 h3,a2.widen h1 h3,a3.widen h1 h3,a4.widen h1 h3,a5.widen h1 h3,
  ⟨d1,d2,d3,d4,far a1.in2,trivial⟩,⟨d5,d6,d7,far a2.in2,trivial⟩,⟨d8,d9,far a3.in2,trivial⟩,⟨d10,far a4.in2,trivial⟩,⟨far a5.in2,trivial⟩,trivial,trivial⟩
theorem OwC.blk2 (h : OwC w lo hi o1 o2 o3 o4 o5 x) : ∀ g,o2.ownBlock = some g → lo ≤ g ∧ g < hi:=by obtain ⟨f1,f2,f3,h1,h2,h3,h4,h5,sp⟩:=h;exact fun g hg=>h2.ows.inn g hg
theorem OwC.blk3 (h : OwC w lo hi o1 o2 o3 o4 o5 x) : ∀ g,o3.ownBlock = some g → lo ≤ g ∧ g < hi:=by obtain ⟨f1,f2,f3,h1,h2,h3,h4,h5,sp⟩:=h;exact fun g hg=>h3.ows.inn g hg
theorem OwC.of (x : Cluster) {a1 b1 a2 b2 a3 b3 a4 b4 a5 b5 : Nat} (h1 : OwS w a1 b1 o1 x.graph.nodes) (h2 : OwS w a2 b2 o2 x.workers) (h3 : OwS w a3 b3 o3 x.links) (h4 : Own w a4 b4 5 o4 (List.flatMap (Enc.enc (α:=Token)) x.tokens)) (h5 : Own w a5 b5 3 o5 (List.flatMap (Enc.enc (α:=News)) x.news))
  (hb : lo ≤ a1 ∧ b1 ≤ hi ∧ lo ≤ a2 ∧ b2 ≤ hi ∧ lo ≤ a3 ∧ b3 ≤ hi ∧ lo ≤ a4 ∧ b4 ≤ hi ∧ lo ≤ a5 ∧ b5 ≤ hi)
  (hd : (b1 ≤ a2 ∨ b2 ≤ a1) ∧ (b1 ≤ a3 ∨ b3 ≤ a1) ∧ (b1 ≤ a4 ∨ b4 ≤ a1) ∧ (b1 ≤ a5 ∨ b5 ≤ a1) ∧ (b2 ≤ a3 ∨ b3 ≤ a2) ∧ (b2 ≤ a4 ∨ b4 ≤ a2) ∧ (b2 ≤ a5 ∨ b5 ≤ a2) ∧ (b3 ≤ a4 ∨ b4 ≤ a3) ∧ (b3 ≤ a5 ∨ b5 ≤ a3) ∧ (b4 ≤ a5 ∨ b5 ≤ a4)) : OwC w lo hi o1 o2 o3 o4 o5 x:=by
 obtain ⟨f1,h1⟩:=h1.owf
 obtain ⟨f2,h2⟩:=h2.owf
 obtain ⟨f3,h3⟩:=h3.owf
 obtain ⟨p1,q1,p2,q2,p3,q3,p4,q4,p5,q5⟩:=hb
 obtain ⟨d1,d2,d3,d4,d5,d6,d7,d8,d9,d10⟩:=hd
 exact ⟨f1,f2,f3,h1.widen p1 q1,h2.widen p2 q2,h3.widen p3 q3,h4.widen p4 q4,h5.widen p5 q5,
  ⟨Dj.apart h1.in2 h2.in2 d1,Dj.apart h1.in2 h3.in2 d2,Dj.apart h1.in2 h4.in2 d3,Dj.apart h1.in2 h5.in2 d4,trivial⟩,⟨Dj.apart h2.in2 h3.in2 d5,Dj.apart h2.in2 h4.in2 d6,Dj.apart h2.in2 h5.in2 d7,trivial⟩,
  ⟨Dj.apart h3.in2 h4.in2 d8,Dj.apart h3.in2 h5.in2 d9,trivial⟩,⟨Dj.apart h4.in2 h5.in2 d10,trivial⟩,trivial,trivial⟩
end
def H7 (k : Nat) : Cell:=⟨((k : Nat) : Int),((k + 1 : Nat) : Int),((k + 1 + 1 : Nat) : Int),((k + 1 + 1 + 1 : Nat) : Int)⟩
def Xr (a b : Int) : Int:=if a < b then -1 else if b < a then 1 else 0
def Uk (m : Nat) (n : Int) : Int:=if n - m < 0 then -1 else n - m
theorem Bj {m : Nat} {n : Int} (h : n ≤ 1048576) (h0 : 0 ≤ n) (hm : m ≤ maxLen) (hc : decide (IntKind.i64.wrap (n - (m : Int)) < 0) = true) : Value.int .i64 (-1) = .int .i64 (Uk m n):=by
 unfold maxLen at hm
 rw [Ki (by omega) (by omega)] at hc
 have : n - (m : Int) < 0:=by simpa using hc
 simp [Uk,this]
theorem Cv {m : Nat} {n : Int} (h : n ≤ 1048576) (h0 : 0 ≤ n) (hm : m ≤ maxLen) (hc : decide (IntKind.i64.wrap (n - (m : Int)) < 0) = false) : Value.int .i64 (IntKind.i64.wrap (n - (m : Int))) = .int .i64 (Uk m n):=by
 unfold maxLen at hm
 rw [Ki (by omega) (by omega)] at hc ⊢
 have : ¬ n - (m : Int) < 0:=by simpa using hc
 simp [Uk,this]
theorem Ui {m : Nat} {n : Int} (h : decide (Uk m n < 0) = false) (hn : 0 ≤ n ∧ n ≤ 1048576) : m ≤ 1048576 ∧ 0 ≤ Uk m n ∧ Uk m n ≤ 1048576 ∧ Uk m n = n - m:=by
 have h:=of_decide_eq_false h
 simp only [Uk] at *
 split at h
 ·omega
 ·rename_i hx
  rw [if_neg hx];omega
theorem Uj {m : Nat} {n : Int} (h : decide (Uk m n < 0) = true) (_ : 0 ≤ n) : n < m:=by
 have h:=of_decide_eq_true h
 simp only [Uk] at *
 split at h <;> omega
theorem Ks {X n : Int} {t : Nat} (h1 : (t : Int) ≤ n) (h2 : X = n - t) : Value.int .i64 X = .int .i64 (Uk t n):=by
 rw [Uk,if_neg (by omega),h2]
theorem Kd {n : Int} {t : Nat} (h : n < t) : Value.int .i64 (-1) = .int .i64 (Uk t n):=by
 rw [Uk,if_pos (by omega)]
section
variable {α : Type} {xs : List α} {f : α → Nat} {k : Nat}
theorem Bk (h : k < xs.length) : ((xs.take (k + 1)).map f).sum = ((xs.take k).map f).sum + f xs[k]:=by
 rw [List.take_succ_eq_append_getElem h,List.map_append,List.sum_append]
 simp only [List.map_cons,List.map_nil,List.sum_cons,List.sum_nil,Nat.add_zero]
theorem V3 (h : k < xs.length) : ((xs.take k).map f).sum + f xs[k] ≤ (xs.map f).sum:=by
 have : xs = xs.take k ++ xs[k] :: xs.drop (k + 1):=by rw [← List.drop_eq_getElem_cons h,List.take_append_drop]
 have h2 : (xs.map f).sum = ((xs.take k ++ xs[k] :: xs.drop (k + 1)).map f).sum:=by rw [← this]
 rw [h2,List.map_append,List.sum_append,List.map_cons,List.sum_cons];omega
theorem sum_all (h : xs.length ≤ k) : ((xs.take k).map f).sum = (xs.map f).sum:=by rw [List.take_of_length_le h]
end
section
variable {α : Type} {xs ys : List α} {k : Nat}
theorem Hl (h : ¬ xs.length = ys.length) : xs ≠ ys:=fun e=>h (by rw [e])
theorem Vi (hp : xs.take k = ys.take k) (h1 : k < xs.length) (h2 : k < ys.length) (h : xs[k] = ys[k]) : xs.take (k + 1) = ys.take (k + 1):=by
 rw [List.take_succ_eq_append_getElem h1,List.take_succ_eq_append_getElem h2,hp,h]
variable [DecidableEq α]
theorem Hm (h1 : k < xs.length) (h2 : k < ys.length) (h : ¬ xs[k] = ys[k]) : Value.bool false = .bool (decide (xs = ys)):=by
 have : xs ≠ ys:=fun e=>h (by subst e;rfl)
 simp [this]
theorem Gc (hp : xs.take k = ys.take k) (hl : xs.length = ys.length) (hk : xs.length ≤ k) : Value.bool true = .bool (decide (xs = ys)):=by
 rw [List.take_of_length_le hk,List.take_of_length_le (by omega)] at hp
 simp [hp]
end
def Vp : List Int → List Int → Int
 | [],[]=>0
 | [],_ :: _=>-1
 | _ :: _,[]=>1
 | x :: xs,y :: ys=>if Xr x y = 0 then Vp xs ys else Xr x y
section
variable {xs ys : List Int} {k : Nat}
theorem Dt (hI : Vp (xs.drop k) (ys.drop k) = Vp xs ys) (h1 : k < xs.length) (h2 : k < ys.length) : Vp xs ys = if Xr xs[k] ys[k] = 0 then Vp (xs.drop (k + 1)) (ys.drop (k + 1)) else Xr xs[k] ys[k]:=by
 rw [← hI,List.drop_eq_getElem_cons h1,List.drop_eq_getElem_cons h2,Vp]
theorem cmpL_step (hI : Vp (xs.drop k) (ys.drop k) = Vp xs ys) (h1 : k < xs.length) (h2 : k < ys.length) (h : Xr xs[k] ys[k] = 0) : Vp (xs.drop (k + 1)) (ys.drop (k + 1)) = Vp xs ys:=by
 rw [Dt hI h1 h2,if_pos h]
theorem cmpL_1 (hI : Vp (xs.drop k) (ys.drop k) = Vp xs ys) (h1 : k < xs.length) (h2 : ys.length ≤ k) : Value.int .i64 1 = .int .i64 (Vp xs ys):=by
 rw [← hI,List.drop_eq_getElem_cons h1,List.drop_of_length_le h2,Vp]
theorem cmpL_2 (hI : Vp (xs.drop k) (ys.drop k) = Vp xs ys) (h1 : k < xs.length) (h2 : k < ys.length) (h : ¬ Xr xs[k] ys[k] = 0) : Value.int .i64 (Xr xs[k] ys[k]) = .int .i64 (Vp xs ys):=by
 rw [Dt hI h1 h2,if_neg h]
theorem cmpL_3 (hI : Vp (xs.drop k) (ys.drop k) = Vp xs ys) (h1 : xs.length ≤ k) (h2 : k < ys.length) : Value.int .i64 (-1) = .int .i64 (Vp xs ys):=by
 rw [← hI,List.drop_eq_getElem_cons h2,List.drop_of_length_le h1,Vp]
theorem cmpL_4 (hI : Vp (xs.drop k) (ys.drop k) = Vp xs ys) (h1 : xs.length ≤ k) (h2 : ys.length ≤ k) : Value.int .i64 0 = .int .i64 (Vp xs ys):=by
 rw [← hI,List.drop_of_length_le h2,List.drop_of_length_le h1,Vp]
end
def Kk : List Int → Int
 | []=>0
 | x :: xs=>if x = 0 then Kk xs else x
section
variable {xs : List Int} {k : Nat}
theorem firstNZ_step (hI : Kk (xs.drop k) = Kk xs) (h1 : k < xs.length) (h : xs[k] = 0) : Kk (xs.drop (k + 1)) = Kk xs:=by
 rw [← hI,List.drop_eq_getElem_cons h1,Kk,if_pos h]
theorem firstNZ_yes (hI : Kk (xs.drop k) = Kk xs) (h1 : k < xs.length) (h : ¬ xs[k] = 0) : xs[k] = Kk xs:=by
 rw [← hI,List.drop_eq_getElem_cons h1,Kk,if_neg h]
theorem firstNZ_no (hI : Kk (xs.drop k) = Kk xs) (h1 : xs.length ≤ k) : Kk xs = 0:=by
 rw [← hI,List.drop_of_length_le h1,Kk]
end
def Hh (x y : Cell) : Int:=Vp [x.epoch,x.op,x.key,x.val] [y.epoch,y.op,y.key,y.val]
theorem B5 (x y : Cell) : Hh x y = Kk [Xr x.epoch y.epoch,Xr x.op y.op,Xr x.key y.key,Xr x.val y.val]:=by simp [Hh,Vp,Kk]
theorem cellOrd_a {x y : Cell} {n : Int} (h : n = Kk [Xr x.epoch y.epoch,Xr x.op y.op,Xr x.key y.key,Xr x.val y.val]) : Value.int .i64 n = .int .i64 (Hh x y):=by rw [B5,h]
theorem cellOrd_b {x y : Cell} (h : Kk [Xr x.epoch y.epoch,Xr x.op y.op,Xr x.key y.key,Xr x.val y.val] = 0) : Value.int .i64 0 = .int .i64 (Hh x y):=by rw [B5,h]
section
variable {α : Type} {xs : List α} {x : α} {k : Nat}
variable [DecidableEq α]
def idxI (xs : List α) (x : α) : Int:=if x ∈ xs then (xs.idxOf x : Int) else -1
end
def Hr (x y : Cell) : Bool:=x.op == y.op && x.epoch == y.epoch && x.key == y.key
def Gr (op epoch key : Int) : List Cell → Int → Bool → Int × Bool
 | [],n,s=>(n,s)
 | x :: xs,n,s=>if Hr x ⟨op,epoch,key,0⟩ && (!s || decide (x.val < n)) then Gr op epoch key xs x.val true else Gr op epoch key xs n s
def K7 (xs : List Cell) (op epoch key : Int) : Int × Bool:=Gr op epoch key xs 0 false
section
variable {xs : List Cell} {op epoch key n : Int} {s : Bool} {k : Nat} {r : Int × Bool}
end
section
variable {α : Type} {xs : List α} {p : α → Bool} {k : Nat}
theorem Kh (hI : (xs.take k).all p = true) (h1 : k < xs.length) (h : p xs[k] = true) : (xs.take (k + 1)).all p = true:=by
 rw [List.take_succ_eq_append_getElem h1,List.all_append,hI]
 simp [h]
theorem all_no (h1 : k < xs.length) (h : p xs[k] = false) : Value.bool false = .bool (xs.all p):=by
 congr 1;symm;rw [List.all_eq_false]
 exact ⟨_,List.getElem_mem h1,by simp [h]⟩
theorem Be (hI : (xs.take k).all p = true) (h1 : xs.length ≤ k) : Value.bool true = .bool (xs.all p):=by
 rw [List.take_of_length_le h1] at hI;rw [hI]
def Tv : List α → List (α × α)
 | x :: y :: l=>(x,y) :: Tv (y :: l)
 | _=>[]
theorem Bf : ∀ (xs : List α),(Tv xs).length = xs.length - 1
 | []=>rfl
 | [_]=>rfl
 | x :: y :: l=>by have:=Bf (y :: l);simp only [Tv,List.length_cons] at *;omega
theorem adj_get : ∀ (xs : List α) (j : Nat) (h : j + 1 < xs.length) (h' : j < (Tv xs).length),(Tv xs)[j] = (xs[j],xs[j + 1])
 | x :: y :: l,0,_,_=>rfl
 | x :: y :: l,j + 1,h,h'=>by
  have:=adj_get (y :: l) j (by simpa using h) (by simpa [Tv] using h')
  simpa [Tv] using this
variable {q : α × α → Bool} {j : Nat}
theorem adj_step (hI : ((Tv xs).take j).all q = true) (h1 : j + 1 < xs.length) (h : q (xs[j],xs[j + 1]) = true) : ((Tv xs).take (j + 1)).all q = true:=by
 have h2 : j < (Tv xs).length:=by rw [Bf];omega
 exact Kh hI h2 (by rw [adj_get xs j h1 h2];exact h)
theorem adj_no (h1 : j + 1 < xs.length) (h : q (xs[j],xs[j + 1]) = false) : Value.bool false = .bool ((Tv xs).all q):=by
 have h2 : j < (Tv xs).length:=by rw [Bf];omega
 exact all_no h2 (by rw [adj_get xs j h1 h2];exact h)
theorem adj_yes (hI : ((Tv xs).take j).all q = true) (h1 : xs.length ≤ j + 1) : Value.bool true = .bool ((Tv xs).all q):=Be hI (by rw [Bf];omega)
end
def nwP (a : List Cell) (x : Cell) : Bool:=!(!(K7 a x.op x.epoch x.key).2 || decide (x.val < (K7 a x.op x.epoch x.key).1))
def isOf (op epoch : Int) (x : Cell) : Bool:=x.op == op && x.epoch == epoch
def Kg (q : Cell × Cell) : Bool:=!decide (0 ≤ Hh q.1 q.2)
def Yr (n lo hi : Int) : Bool:=decide (lo ≤ n) && decide (n ≤ hi)
def Qu (g : Graph) (a b : Int) : Int:=if a < 0 ∨ b < 0 ∨ g.workers ≤ a ∨ g.workers ≤ b then -1 else IntKind.i64.wrap (IntKind.i64.wrap (a * g.workers) + b)
theorem link_i {g : Graph} {a b : Int} (h : a < 0 ∨ b < 0 ∨ g.workers ≤ a ∨ g.workers ≤ b) : Value.int .i64 (-1) = .int .i64 (Qu g a b):=by rw [Qu,if_pos h]
theorem link_o {g : Graph} {a b : Int} (h : ¬ (a < 0 ∨ b < 0 ∨ g.workers ≤ a ∨ g.workers ≤ b)) : Value.int .i64 (IntKind.i64.wrap (IntKind.i64.wrap (a * g.workers) + b)) = .int .i64 (Qu g a b):=by rw [Qu,if_neg h]
theorem link_a {g : Graph} {a b : Int} (h : ((decide ((if b < a then b else a) < 0)) || (decide (g.workers ≤ (if b > a then b else a)))) = true) : Value.int .i64 (-1) = .int .i64 (Qu g a b):=link_i (by
 simp only [Bool.or_eq_true,decide_eq_true_eq] at h
 split at h <;> split at h <;> omega)
theorem link_b {g : Graph} {a b : Int} (h : ((decide ((if b < a then b else a) < 0)) || (decide (g.workers ≤ (if b > a then b else a)))) = false) : Value.int .i64 (IntKind.i64.wrap (IntKind.i64.wrap (a * g.workers) + b)) = .int .i64 (Qu g a b):=link_o (by
 simp only [Bool.or_eq_false_iff,decide_eq_false_iff_not] at h
 split at h <;> split at h <;> omega)
theorem Dh {w : Int} (hw : rg w) : (IntKind.i64.wrap (w - 1) = w - 1 ∧ -9223372036854775808 < w) ∨ w = -9223372036854775808:=by
 unfold rg at hw
 by_cases h : w = -9223372036854775808
 ·exact .inr h
 ·exact .inl ⟨Ki (by omega) (by omega),by omega⟩
theorem link_c {g : Graph} {a b : Int} (hw : rg g.workers) (h : (((!(decide (0 ≤ a) && decide (a ≤ IntKind.i64.wrap (g.workers - 1)))) || (!(decide (0 ≤ b) && decide (b ≤ IntKind.i64.wrap (g.workers - 1))))) || (decide (g.workers < 1))) = true) :
  Value.int .i64 (-1) = .int .i64 (Qu g a b):=link_i (by
 rcases Dh hw with ⟨e,_⟩ | e
 ·rw [e] at h;simp at h;omega
 ·omega)
theorem link_d {g : Graph} {a b : Int} (hw : rg g.workers) (h : (((!(decide (0 ≤ a) && decide (a ≤ IntKind.i64.wrap (g.workers - 1)))) || (!(decide (0 ≤ b) && decide (b ≤ IntKind.i64.wrap (g.workers - 1))))) || (decide (g.workers < 1))) = false) :
  Value.int .i64 (IntKind.i64.wrap (IntKind.i64.wrap (a * g.workers) + b)) = .int .i64 (Qu g a b):=link_o (by
 rcases Dh hw with ⟨e,_⟩ | e
 ·rw [e] at h;simp at h;omega
 ·simp [e] at h)
section
variable {x y : Graph} {k : Nat}
end
theorem kx {p q : Bool} (h : (!p || !q) = true) : (p && q) = false:=by cases p <;> cases q <;> simp_all
theorem ky {p q : Bool} (h : (!p || !q) = false) : (p && q) = true:=by cases p <;> cases q <;> simp_all
theorem kx0 {w p q : Bool} (h : (!p || !q) = true) : ((w && p) && q) = false:=by cases w <;> cases p <;> cases q <;> simp_all
theorem ky0 {w p q : Bool} (h : (!p || !q) = false) (hw : w = true) : ((w && p) && q) = true:=by cases w <;> cases p <;> cases q <;> simp_all
def U1 (x : Node) : Bool :=
 if x.kind = 2 then Yr x.a 0 999 && x.b == 0 else if x.kind = 3 then Yr x.a 1 10 && Yr x.b 0 (IntKind.i64.wrap (x.a - 1)) else if x.kind = 4 then Yr x.a 0 99 && x.b == 0
 else Yr x.kind 1 8 && (x.a == 0) && (x.b == 0)
def Bs (x : Node) : Bool:=((decide (2 < ((x.outs.length : Nat) : Int))) || ((x.kind == 8) && (decide (0 < ((x.outs.length : Nat) : Int))))) || ((((x.outs.length : Nat) : Int) == 2) && ((List.getD x.outs 0 default) == (List.getD x.outs 1 default)))
def Ke (x : Node) : Bool:=U1 x && !Bs x && x.outs.all (Yr · 0 7)
section
variable {x : Node} {k : Nat}
theorem Hj (h : U1 x = false) : Value.bool false = .bool (Ke x):=by simp [Ke,h]
theorem node_t (h : Bs x = true) : Value.bool false = .bool (Ke x):=by simp [Ke,h]
theorem node_l {h1 : k < x.outs.length} (h : (!(Yr x.outs[k] 0 7)) = true) : Value.bool false = .bool (Ke x):=by
 have : x.outs.all (Yr · 0 7) = false:=by
  rw [List.all_eq_false];exact ⟨_,List.getElem_mem h1,by simpa using h⟩
 simp [Ke,this]
theorem node_y (hk : U1 x = true) (ht : Bs x = false) (hI : (x.outs.take k).all (Yr · 0 7) = true) (h1 : x.outs.length ≤ k) : Value.bool true = .bool (Ke x):=by
 rw [List.take_of_length_le h1] at hI
 simp [Ke,hk,ht,hI]
theorem node_2 (h : (x.kind == 2) = true) : U1 x = (Yr x.a 0 999 && x.b == 0):=by simp at h;simp [U1,h]
theorem node_3 (h : (x.kind == 3) = true) : U1 x = (Yr x.a 1 10 && Yr x.b 0 (IntKind.i64.wrap (x.a - 1))):=by simp at h;simp [U1,h]
theorem node_4 (h : (x.kind == 4) = true) : U1 x = (Yr x.a 0 99 && x.b == 0):=by simp at h;simp [U1,h]
theorem Gj (h2 : (x.kind == 2) = false) (h3 : (x.kind == 3) = false) (h4 : (x.kind == 4) = false) : U1 x = (Yr x.kind 1 8 && (x.a == 0) && (x.b == 0)):=by simp at h2 h3 h4;simp [U1,h2,h3,h4]
theorem Gd {n : Int} (h : n = 1 ∨ n = 2 ∨ n = 3 ∨ n = 4 ∨ n = 5 ∨ n = 6 ∨ n = 7 ∨ n = 8) : Yr n 1 8 = true:=by
 rcases h with h | h | h | h | h | h | h | h <;> subst h <;> decide
theorem win_not {n : Int} (h : ¬ (n = 1 ∨ n = 2 ∨ n = 3 ∨ n = 4 ∨ n = 5 ∨ n = 6 ∨ n = 7 ∨ n = 8)) : Yr n 1 8 = false:=by
 simp only [Yr,Bool.and_eq_false_iff,decide_eq_false_iff_not];omega
def nodeS (x : Node) (p q : Bool) : Bool:=(((!(Yr x.kind 1 8) || !p) || !q) || (decide (2 < ((x.outs.length : Nat) : Int)))) || ((x.kind == 8) && (decide (0 < ((x.outs.length : Nat) : Int))))
theorem node_s {p q : Bool} (hk : U1 x = (Yr x.kind 1 8 && p && q)) (h : nodeS x p q = true) : Value.bool false = .bool (Ke x):=by
 simp only [nodeS] at h
 cases hkk : U1 x with
 | false=>exact Hj hkk
 | true =>
  rw [hkk] at hk
  have hk:=hk.symm
  simp only [Bool.and_eq_true] at hk
  obtain ⟨⟨h1,h2⟩,h3⟩:=hk
  simp only [h1,h2,h3,Bool.not_true,Bool.false_or] at h
  exact node_t (by simp only [Bs,h,Bool.true_or])
theorem node_p {p q : Bool} (h : nodeS x p q = false) (hk : U1 x = (Yr x.kind 1 8 && p && q)) : U1 x = true ∧ ((decide (2 < ((x.outs.length : Nat) : Int))) || ((x.kind == 8) && (decide (0 < ((x.outs.length : Nat) : Int))))) = false:=by
 simp only [nodeS,Bool.or_eq_false_iff] at h
 obtain ⟨⟨⟨⟨h1,h2⟩,h3⟩,h4⟩,h5⟩:=h
 simp only [Bool.not_eq_false'] at h1 h2 h3
 simp only [hk,h1,h2,h3,h4,h5];simp
theorem node_d {h1 : k < x.outs.length} (h : ((!(Yr x.outs[k] 0 7)) || ((decide (0 < ((k : Nat) : Int))) && ((List.getD x.outs 0 default) == (List.getD x.outs 1 default)))) = true) (ht : ((decide (2 < ((x.outs.length : Nat) : Int))) || ((x.kind == 8) && (decide (0 < ((x.outs.length : Nat) : Int))))) = false) : Value.bool false = .bool (Ke x):=by
 rcases Bool.or_eq_true _ _ ▸ h with h | h
 ·exact node_l h
 ·simp only [Bool.and_eq_true,decide_eq_true_eq] at h
  have ht2:=(Bool.or_eq_false_iff.1 ht).1
  simp only [decide_eq_false_iff_not] at ht2
  refine node_t ?_
  have : ((x.outs.length : Nat) : Int) = 2:=by omega
  simp only [Bs,this,h.2];simp
theorem nodeL {h1 : k < x.outs.length} (h : ((!(Yr x.outs[k] 0 7)) || ((decide (0 < ((k : Nat) : Int))) && ((List.getD x.outs 0 default) == (List.getD x.outs 1 default)))) = false) : Yr x.outs[k] 0 7 = true:=by
 have:=(Bool.or_eq_false_iff.1 h).1
 simpa using this
theorem nodeJ {h1 : k < x.outs.length} (h : ((!(Yr x.outs[k] 0 7)) || ((decide (0 < ((k : Nat) : Int))) && ((List.getD x.outs 0 default) == (List.getD x.outs 1 default)))) = false) : 1 < k + 1 → ((List.getD x.outs 0 default) == (List.getD x.outs 1 default)) = false:=fun hk=>by
 have:=(Bool.or_eq_false_iff.1 h).2
 have hd : decide (0 < ((k : Nat) : Int)) = true:=decide_eq_true (by omega)
 rwa [hd,Bool.true_and] at this
theorem node_z {p q : Bool} (hS : nodeS x p q = false) (hk : U1 x = (Yr x.kind 1 8 && p && q)) (hI : (x.outs.take k).all (Yr · 0 7) = true) (hJ : 1 < k → ((List.getD x.outs 0 default) == (List.getD x.outs 1 default)) = false) (h1 : x.outs.length ≤ k) : Value.bool true = .bool (Ke x):=by
 obtain ⟨hk,ht⟩:=node_p hS hk
 refine node_y hk ?_ hI h1
 simp only [Bs,ht,Bool.false_or,Bool.and_eq_false_iff]
 by_cases h2 : ((x.outs.length : Nat) : Int) = 2
 ·exact .inr (hJ (by omega))
 ·exact .inl (by simpa using h2)
end
def Av (g : Graph) (to : Int) : Int:=(List.getD g.nodes to.toNat default).kind
def Uh (g : Graph) (i : Nat) (x : Node) (to : Int) : Bool :=
 decide (((g.nodes.length : Nat) : Int) ≤ to) || (((x.kind == 7) && ((decide (((i : Nat) : Int) < to)) || ((Av g to != 5) && (Av g to != 6)))) || ((x.kind != 7) && (decide (to ≤ ((i : Nat) : Int)))))
def atOk (_ : Graph) (i : Nat) (x : Node) : Bool:=!((!(Ke x)) || (!((x.kind == 1) == (((i : Nat) : Int) == 0))))
def K9 (g : Graph) (i : Nat) (x : Node) : Bool:=atOk g i x && x.outs.all (fun to=>!Uh g i x to)
def Af (g : Graph) : Bool:=((!(Yr ((g.nodes.length : Nat) : Int) 1 8)) || (!(Yr g.workers 1 4))) || (!(Yr g.cap 1 4))
def Xb (g : Graph) : Bool:=!Af g && (List.range g.nodes.length).all (fun i=>K9 g i (List.getD g.nodes i default))
section
variable {g : Graph} {i k : Nat}
theorem Xl {α : Type} [Inhabited α] {xs : List α} {i : Nat} (h : i < xs.length) : List.getD xs i default = xs[i]:=by simp [List.getD,h]
theorem graph_h (h : Af g = true) : Value.bool false = .bool (Xb g):=by simp [Xb,h]
theorem graph_n {h1 : i < g.nodes.length} (h : K9 g i g.nodes[i] = false) : Value.bool false = .bool (Xb g):=by
 have : (List.range g.nodes.length).all (fun i=>K9 g i (List.getD g.nodes i default)) = false:=by
  rw [List.all_eq_false];exact ⟨i,by simpa using h1,by rw [Xl h1,h];simp⟩
 simp only [Xb,this,Bool.and_false]
theorem graph_a {h1 : i < g.nodes.length} (h : ((!(Ke g.nodes[i])) || (!((g.nodes[i].kind == 1) == (((i : Nat) : Int) == 0)))) = true) : Value.bool false = .bool (Xb g):=graph_n (h1:=h1) (by
 simp only [K9,atOk,h];simp)
theorem Bb {h1 : i < g.nodes.length} {h2 : k < g.nodes[i].outs.length} (h : Uh g i g.nodes[i] (g.nodes[i].outs[k]) = true) : Value.bool false = .bool (Xb g):=graph_n (h1:=h1) (by
 have : g.nodes[i].outs.all (fun to=>!Uh g i g.nodes[i] to) = false:=by
  rw [List.all_eq_false];exact ⟨_,List.getElem_mem h2,by simp [h]⟩
 simp only [K9,this,Bool.and_false])
theorem graph_s {h1 : i < g.nodes.length} (ha : ((!(Ke g.nodes[i])) || (!((g.nodes[i].kind == 1) == (((i : Nat) : Int) == 0)))) = false) (hI : (g.nodes[i].outs.take k).all (fun to=>!Uh g i g.nodes[i] to) = true) (hk : g.nodes[i].outs.length ≤ k)
  (hp : ∀ j,j < i → K9 g j (List.getD g.nodes j default) = true) : ∀ j,j < i + 1 → K9 g j (List.getD g.nodes j default) = true:=fun j hj=>by
 by_cases e : j = i
 ·subst e
  rw [List.take_of_length_le hk] at hI
  rw [Xl h1];simp only [K9,atOk,ha,hI];simp
 ·exact hp j (by omega)
theorem graph_y (hh : Af g = false) (hp : ∀ j,j < i → K9 g j (List.getD g.nodes j default) = true) (hi : g.nodes.length ≤ i) : Value.bool true = .bool (Xb g):=by
 have : (List.range g.nodes.length).all (fun i=>K9 g i (List.getD g.nodes i default)) = true:=by
  rw [List.all_eq_true];intro j hj;exact hp j (by have:=List.mem_range.1 hj;omega)
 simp only [Xb,this,hh];simp
theorem edge_a {x : Node} {to : Int} (h : decide (((g.nodes.length : Nat) : Int) ≤ to) = true) : Uh g i x to = true:=by simp only [Uh,h,Bool.true_or]
theorem edge_b {x : Node} {to K : Int} (hK : K = Av g to) (h : (((x.kind == 7) && ((decide (((i : Nat) : Int) < to)) || ((K != 5) && (K != 6)))) || ((x.kind != 7) && (decide (to ≤ ((i : Nat) : Int))))) = true) : Uh g i x to = true:=by
 subst hK;simp only [Uh,h,Bool.or_true]
theorem edge_n {x : Node} {to K : Int} (hK : K = Av g to) (h1 : decide (((g.nodes.length : Nat) : Int) ≤ to) = false) (h : (((x.kind == 7) && ((decide (((i : Nat) : Int) < to)) || ((K != 5) && (K != 6)))) || ((x.kind != 7) && (decide (to ≤ ((i : Nat) : Int))))) = false) : (!Uh g i x to) = true:=by
 subst hK;simp only [Uh,h,h1,Bool.or_false,Bool.not_false]
theorem edge_s1 {x : Node} {to : Int} (h : ((decide (((g.nodes.length : Nat) : Int) ≤ to)) || ((x.kind != 7) && (decide (to ≤ ((i : Nat) : Int))))) = true) : Uh g i x to = true:=by
 rcases Bool.or_eq_true _ _ ▸ h with h | h
 ·exact edge_a h
 ·simp only [Uh,h,Bool.or_true]
theorem edge_s2 {x : Node} {to K : Int} (hK : K = Av g to) (h : ((x.kind == 7) && ((decide (((i : Nat) : Int) < to)) || ((K != 5) && (K != 6)))) = true) : Uh g i x to = true:=edge_b hK (by rw [h];rfl)
theorem edge_sn {x : Node} {to K : Int} (hK : K = Av g to) (h1 : ((decide (((g.nodes.length : Nat) : Int) ≤ to)) || ((x.kind != 7) && (decide (to ≤ ((i : Nat) : Int))))) = false) (h : ((x.kind == 7) && ((decide (((i : Nat) : Int) < to)) || ((K != 5) && (K != 6)))) = false) : (!Uh g i x to) = true :=
 edge_n hK (Bool.or_eq_false_iff.1 h1).1 (by rw [h,(Bool.or_eq_false_iff.1 h1).2];rfl)
theorem edge_lt {n to : Int} {q : Bool} (h : ((decide (n ≤ to)) || q) = false) : to < n:=by
 have:=of_decide_eq_false (Bool.or_eq_false_iff.1 h).1
 omega
theorem By {h1 : i < g.nodes.length} {h2 : k < g.nodes[i].outs.length} (ha : ((!(Ke g.nodes[i])) || (!((g.nodes[i].kind == 1) == (((i : Nat) : Int) == 0)))) = false) : 0 ≤ g.nodes[i].outs[k]:=by
 have hn : Ke g.nodes[i] = true:=by simpa using (Bool.or_eq_false_iff.1 ha).1
 simp only [Ke,Bool.and_eq_true,List.all_eq_true] at hn
 have:=hn.2 _ (List.getElem_mem h2)
 simp only [Yr,Bool.and_eq_true,decide_eq_true_eq] at this
 exact this.1
end
def ofE (e : Int) (r : Record) : Bool:=r.stamp.epoch == e
def workAt (x : Worker) (e : Int) : Int:=IntKind.i64.wrap (((x.queue.filter (ofE e)).length : Int) + ((x.staged.filter (ofE e)).length : Int))
def openAt (x : Worker) (e : Int) : Bool:=x.inputs.any fun r=>decide (r.stamp.epoch ≤ e)
def idle (x : Worker) : Bool:=(x.queue.length == 0) && (x.staged.length == 0) && (x.inputs.length == 0)
def isDone (x : Worker) (e : Int) : Bool:=x.dones.any fun d=>d.epoch == e
def Ae (k : Nat) : Int:=((k : Nat) : Int)
def T3 (k : Nat) : Bool:=Int.tmod ((k : Nat) : Int) 3 == 0
def Kr (k : Nat) : Record:=⟨((k : Nat) : Int),⟨((k + 1 : Nat) : Int),((k + 1 + 1 : Nat) : Int)⟩,((k + 1 + 1 + 1 : Nat) : Int),((k + 1 + 1 + 1 + 1 : Nat) : Int)⟩
def C3 (k : Nat) : Done:=⟨((k : Nat) : Int),Int.tmod ((k + 1 : Nat) : Int) 3 == 0⟩
def Gp (k : Nat) : Token:=⟨Int.tmod ((k : Nat) : Int) 3 == 0,((k + 1 : Nat) : Int),((k + 1 + 1 : Nat) : Int),Int.tmod ((k + 1 + 1 + 1 : Nat) : Int) 3 == 0,Int.tmod ((k + 1 + 1 + 1 + 1 : Nat) : Int) 3 == 0⟩
def C2 (k : Nat) : News:=⟨((k : Nat) : Int),((k + 1 : Nat) : Int),Int.tmod ((k + 1 + 1 : Nat) : Int) 3 == 0⟩
def Vw (k : Nat) (x : Worker) : Nat:=k + 5 * x.queue.length + 5 * x.staged.length + 5 * x.inputs.length + 4 * x.cells.length + 1 * x.sums.length + 1 * x.black.length + 1 * x.caps.length + 2 * x.dones.length
def Hf (k : Nat) (x : Worker) : Worker :=
 ⟨Vv 5 Kr k x.queue.length,Vv 5 Kr (k + 5 * x.queue.length) x.staged.length,Vv 5 Kr (k + 5 * x.queue.length + 5 * x.staged.length) x.inputs.length,
  Vv 4 H7 (k + 5 * x.queue.length + 5 * x.staged.length + 5 * x.inputs.length) x.cells.length,Vv 1 Ae (k + 5 * x.queue.length + 5 * x.staged.length + 5 * x.inputs.length + 4 * x.cells.length) x.sums.length,
  Vv 1 T3 (k + 5 * x.queue.length + 5 * x.staged.length + 5 * x.inputs.length + 4 * x.cells.length + 1 * x.sums.length) x.black.length,
  Vv 1 T3 (k + 5 * x.queue.length + 5 * x.staged.length + 5 * x.inputs.length + 4 * x.cells.length + 1 * x.sums.length + 1 * x.black.length) x.caps.length,
  Vv 2 C3 (k + 5 * x.queue.length + 5 * x.staged.length + 5 * x.inputs.length + 4 * x.cells.length + 1 * x.sums.length + 1 * x.black.length + 1 * x.caps.length) x.dones.length⟩
theorem As (j k : Nat) (x : Worker) : Vw j (Hf k x) = Vw j x:=by simp [Vw,Hf,Qi]
theorem markW_idem (k : Nat) (x : Worker) : Hf k x = Hf k (Hf k x):=by simp [Hf,Qi]
theorem cntW_mark (k : Nat) (x : Worker) : Q7 (Hf k x) = Q7 x:=by simp [Q7,Hf,Qi]
theorem any_step {α : Type} {xs : List α} {p : α → Bool} {k : Nat} (hI : (xs.take k).any p = false) (h1 : k < xs.length) (h : p xs[k] = false) : (xs.take (k + 1)).any p = false:=by
 rw [List.take_succ_eq_append_getElem h1,List.any_append,hI];simp [h]
def B1 {α : Type} (xs : List α) (p : α → Bool) : Int:=if xs.any p then ((xs.findIdx p : Nat) : Int) else -1
theorem find_yes {α : Type} {xs : List α} {p : α → Bool} {k : Nat} (hI : (xs.take k).any p = false) (h1 : k < xs.length) (h : p xs[k] = true) : Value.int .i64 ((k : Nat) : Int) = .int .i64 (B1 xs p):=by
 have ha : xs.any p = true:=by rw [List.any_eq_true];exact ⟨_,List.getElem_mem h1,h⟩
 have : xs.findIdx p = k:=by
  rw [List.findIdx_eq h1]
  refine ⟨h,fun j hj=>?_⟩
  rw [List.any_eq_false] at hI
  have:=hI xs[j] (by rw [List.mem_take_iff_getElem];exact ⟨j,by omega,rfl⟩)
  simpa using this
 simp [B1,ha,this]
theorem find_no {α : Type} {xs : List α} {p : α → Bool} {k : Nat} (hI : (xs.take k).any p = false) (h1 : xs.length ≤ k) : Value.int .i64 (-1) = .int .i64 (B1 xs p):=by
 rw [List.take_of_length_le h1] at hI;simp [B1,hI]
theorem any_find {α : Type} {xs : List α} {p : α → Bool} : Value.bool (decide (0 ≤ B1 xs p)) = .bool (xs.any p):=by
 unfold B1
 cases h : xs.any p <;> simp
def U3 (s : Stamp) : Bool:=Yr s.epoch 0 3 && Yr s.turn 0 6
def Y2 (r : Record) : Bool:=(Yr r.op 0 7 && U3 r.stamp) && (Yr r.key 0 99 && Yr r.val 0 999)
def Ug (g : Graph) (op : Int) : Bool:=Yr op 0 (((g.nodes.length : Nat) : Int) - 1)
def Xo (g : Graph) (r : Record) : Bool:=Y2 r && Ug g r.op
def nextT (s : Stamp) : Stamp × Bool:=if (!(U3 s) || (s.turn == 6)) = true then (s,false) else (⟨s.epoch,s.turn + 1⟩,true)
theorem Cd {n lo hi : Int} : Yr n lo hi = true ↔ lo ≤ n ∧ n ≤ hi:=by simp [Yr]
theorem op_yes {g : Graph} {r : Record} (h : (!(Y2 r) || decide (((g.nodes.length : Nat) : Int) ≤ r.op)) = false) : Xo g r = true:=by
 simp only [Bool.or_eq_false_iff,Bool.not_eq_false',decide_eq_false_iff_not] at h
 have h1:=h.1
 simp only [Y2,Bool.and_eq_true,Cd] at h1
 simp only [Xo,h.1,Ug,Bool.true_and,Cd];omega
theorem op_no {g : Graph} {r : Record} (h : (!(Y2 r) || decide (((g.nodes.length : Nat) : Int) ≤ r.op)) = true) : Xo g r = false:=by
 cases h1 : Y2 r with
 | false=>simp [Xo,h1]
 | true =>
  simp [h1] at h
  simp only [Xo,h1,Ug,Bool.true_and,Yr,Bool.and_eq_false_iff,decide_eq_false_iff_not];omega
theorem bf {a : Bool} (h : a = true → False) : Value.bool false = .bool a:=by cases a <;> simp_all
theorem bt {a : Bool} (h : a = true) : Value.bool true = .bool a:=by rw [h]
def Ho (n : Nat) (P : Nat → Bool) : Bool:=(List.range n).all P
theorem Ax {n : Nat} {P : Nat → Bool} (h : Ho n P = true) (hp : P n = true) : Ho (n + 1) P = true:=by
 simp only [Ho,List.range_succ,List.all_append] at *
 simp [h,hp]
theorem G7 {n j : Nat} {P : Nat → Bool} (h : Ho n P = true) (hj : j < n) : P j = true:=List.all_eq_true.1 h j (List.mem_range.2 hj)
theorem Cl {n m : Nat} {P : Nat → Bool} (h : Ho n P = true) (hm : m ≤ n) : Ho m P = true:=List.all_eq_true.2 fun j hj=>G7 h (by have:=List.mem_range.1 hj;omega)
theorem Gy {α : Type} {xs : List α} {p : α → Bool} {k : Nat} (hI : (xs.take k).all p = true) (h1 : xs.length ≤ k) : xs.all p = true:=by rwa [List.take_of_length_le h1] at hI
def inAt (xs : List Record) (j : Nat) : Bool :=
 !((((List.getD xs j default).op != 0) || ((List.getD xs j default).stamp.turn != 0)) || (decide (0 < ((j : Nat) : Int)) && decide ((List.getD xs j default).stamp.epoch < (List.getD xs (j - 1) default).stamp.epoch)))
theorem A9 {xs : List Record} {j : Nat} (h : j < xs.length) : inAt xs j = !(((xs[j].op != 0) || (xs[j].stamp.turn != 0)) || (decide (0 < ((j : Nat) : Int)) && decide (xs[j].stamp.epoch < (List.getD xs (j - 1) default).stamp.epoch))):=by
 simp only [inAt,Xl h]
def Vz (xs : List Done) (j : Nat) : Bool:=!(!(Yr (List.getD xs j default).epoch 0 3) || (xs.take j).any (fun d=>d.epoch == (List.getD xs j default).epoch))
theorem Gf {xs : List Done} {j : Nat} (h : j < xs.length) : Vz xs j = !(!(Yr xs[j].epoch 0 3) || (xs.take j).any (fun d=>d.epoch == xs[j].epoch)):=by
 simp only [Vz,Xl h]
def Xd (g : Graph) (x : Worker) : Bool :=
 x.queue.all (Xo g) && x.staged.all (Xo g) && x.inputs.all (Xo g) && (Tv x.cells).all Kg && Ho x.inputs.length (fun j=>inAt x.inputs j) &&
  (((x.sums.length : Nat) : Int) == 4) && (((x.black.length : Nat) : Int) == 4) && (((x.caps.length : Nat) : Int) == 4) && x.sums.all (Yr · (-1000000) 1000000) && Ho x.dones.length (fun j=>Vz x.dones j)
theorem wk_yes1 {g : Graph} {x : Worker} (h1 : (((!(x.queue.all (Xo g)) || !(x.staged.all (Xo g))) || !(x.inputs.all (Xo g))) || !((Tv x.cells).all Kg)) = false) (h2 : Ho x.inputs.length (fun j=>inAt x.inputs j) = true)
  (h3 : (((((x.sums.length : Nat) : Int) != 4) || (((x.black.length : Nat) : Int) != 4)) || (((x.caps.length : Nat) : Int) != 4)) = false) (h4 : x.sums.all (Yr · (-1000000) 1000000) = true) (h5 : Ho x.dones.length (fun j=>Vz x.dones j) = true) :
  Value.bool true = .bool (Xd g x):=by
 simp only [Bool.or_eq_false_iff,Bool.not_eq_false',bne_eq_false_iff_eq] at h1 h3
 obtain ⟨⟨⟨a1,a2⟩,a3⟩,a4⟩:=h1
 obtain ⟨⟨b1,b2⟩,b3⟩:=h3
 exact bt (by simp only [Xd,a1,a2,a3,a4,h2,b1,b2,b3,h4,h5];rfl)
section
variable {x y : Worker}
end
theorem wk_len {g : Graph} {x : Worker} (h : ((((((!(x.queue.all (Xo g)) || !(x.staged.all (Xo g))) || !(x.inputs.all (Xo g))) || !((Tv x.cells).all Kg)) || (((x.sums.length : Nat) : Int) != 4)) || (((x.black.length : Nat) : Int) != 4)) || (((x.caps.length : Nat) : Int) != 4)) = false) : x.sums.length = 4:=by
 simp at h;omega
theorem wk_yes2 {g : Graph} {x : Worker} (h : ((((((!(x.queue.all (Xo g)) || !(x.staged.all (Xo g))) || !(x.inputs.all (Xo g))) || !((Tv x.cells).all Kg)) || (((x.sums.length : Nat) : Int) != 4)) || (((x.black.length : Nat) : Int) != 4)) || (((x.caps.length : Nat) : Int) != 4)) = false) (h2 : Ho x.inputs.length (fun j=>inAt x.inputs j) = true)
  (h4 : x.sums.all (Yr · (-1000000) 1000000) = true) (h5 : Ho x.dones.length (fun j=>Vz x.dones j) = true) : Value.bool true = .bool (Xd g x):=by
 simp only [Bool.or_eq_false_iff,Bool.not_eq_false',bne_eq_false_iff_eq] at h
 obtain ⟨⟨⟨⟨⟨⟨a1,a2⟩,a3⟩,a4⟩,b1⟩,b2⟩,b3⟩:=h
 exact bt (by simp only [Xd,a1,a2,a3,a4,h2,b1,b2,b3,h4,h5];rfl)
section
variable {xs : List Done} {i j : Nat}
theorem done_s {h1 : i < xs.length} (hw : (!(Yr xs[i].epoch 0 3)) = false) (hJ : (xs.take j).any (fun d=>d.epoch == xs[i].epoch) = false) (hj : i ≤ j) : Vz xs i = true:=by
 rw [Gf h1,hw]
 have : (xs.take i).any (fun d=>d.epoch == xs[i].epoch) = false:=by
  rw [List.any_eq_false] at *
  intro d hd
  refine hJ d ?_
  rw [List.mem_take_iff_getElem] at *
  obtain ⟨q,hq,rfl⟩:=hd
  exact ⟨q,by omega,rfl⟩
 simp [this]
theorem done_n {h1 : i < xs.length} {h2 : j < xs.length} (h : Vz xs i = true) (hj : j < i) (he : (xs[j].epoch == xs[i].epoch) = true) : False:=by
 rw [Gf h1] at h
 have : (xs.take i).any (fun d=>d.epoch == xs[i].epoch) = true:=by
  rw [List.any_eq_true]
  exact ⟨xs[j],by rw [List.mem_take_iff_getElem];exact ⟨j,by omega,rfl⟩,he⟩
 simp [this] at h
end
theorem Dq {g : Graph} {op : Int} (h : Ug g op = true) : 0 ≤ op ∧ op < ((g.nodes.length : Nat) : Int) ∧ Int.toNat op < g.nodes.length:=by
 simp only [Ug,Cd] at h;omega
theorem isN_w {n : Nat} (h : n ≤ maxLen) : IntKind.i64.wrap (((n : Nat) : Int) - 1) = ((n : Nat) : Int) - 1:=by
 unfold maxLen at h
 rw [Ki (by omega) (by omega)]
def nodeOf (g : Graph) (op : Int) : Node × Bool:=if Ug g op = true then (List.getD g.nodes (Int.toNat op) default,true) else (⟨0,0,0,[]⟩,false)
theorem mem_cnt {α : Type} {f : α → Nat} : ∀ {xs : List α} {x : α},x ∈ xs → f x ≤ (xs.map f).sum
 | y :: ys,x,h=>by
  rcases List.mem_cons.1 h with rfl | h
  ·simp
  ·have:=mem_cnt (f:=f) h;simp;omega
theorem outs_le {g : Graph} {x : Node} (h : Xe g ≤ 1048576) (hx : x ∈ g.nodes) : x.outs.length ≤ 1048576:=by
 have:=mem_cnt (f:=Xy) hx
 simp only [Xe,X0] at h
 simp only [Xy] at this;omega
def cappedM (g : Graph) (r : Record) : Bool:=((((((nodeOf g r.op).2 && Xb g) && Y2 r) && ((nodeOf g r.op).1.kind == 7)) && decide (0 < (((nodeOf g r.op).1.outs.length : Nat) : Int))) && !(nextT r.stamp).2)
def addOut (f : List Int) (k : Int) : List Int:=if k ∈ f then f else f ++ [k]
def addOuts (f outs : List Int) : List Int:=outs.foldl addOut f
def reachGo (g : Graph) : Nat → Nat → List Int → List Int
 | 0,_,f=>f
 | n + 1,i,f=>if i < f.length then reachGo g n (i + 1) (addOuts f (List.getD g.nodes (Int.toNat (List.getD f i default)) default).outs) else f
def reachL (g : Graph) (a : Int) : List Int:=reachGo g 10 0 (List.getD g.nodes (Int.toNat a) default).outs
def reaches (g : Graph) (a b : Int) : Bool:=(Xb g && Ug g a) && decide (b ∈ reachL g a)
def GoodF (g : Graph) (f0 f : List Int) : Prop:=(∃ nw,f = f0 ++ nw ∧ nw.Nodup) ∧ ∀ x ∈ f,0 ≤ x ∧ x < ((g.nodes.length : Nat) : Int)
section
variable {g : Graph} {f0 f f2 outs : List Int} {i j n : Nat} {a b k : Int}
theorem gok_len (h : Xb g = true) : 1 ≤ g.nodes.length ∧ g.nodes.length ≤ 8:=by
 simp only [Xb,Af,Bool.and_eq_true,Bool.not_eq_true',Bool.or_eq_false_iff,Bool.not_eq_false'] at h
 have:=Cd.1 h.1.1.1;omega
theorem gok_at (h : Xb g = true) (hi : i < g.nodes.length) : K9 g i g.nodes[i] = true:=by
 simp only [Xb,Bool.and_eq_true] at h
 have:=List.all_eq_true.1 h.2 i (List.mem_range.2 hi)
 rwa [Xl hi] at this
theorem outs_two (h : Xb g = true) (hi : i < g.nodes.length) : (List.getD g.nodes i default).outs.length ≤ 2:=by
 have hn:=gok_at h hi
 simp only [K9,atOk,Bool.and_eq_true,Bool.not_eq_true',Bool.or_eq_false_iff,Bool.not_eq_false'] at hn
 have h1:=hn.1.1
 simp only [Ke,Bs,Bool.and_eq_true,Bool.not_eq_true',Bool.or_eq_false_iff,decide_eq_false_iff_not] at h1
 rw [Xl hi];omega
end
def hasLoopM (g : Graph) : Bool:=!Ho g.nodes.length (fun j=>!reaches g ((j : Nat) : Int) ((j : Nat) : Int))
def numNd (k : Nat) (x : Node) : Nat:=k + 1 * x.outs.length
def markNd (k : Nat) (x : Node) : Node:=⟨x.kind,x.a,x.b,Vv 1 Ae k x.outs.length⟩
def Uz (k : Nat) (x : Node) : Node:=⟨((k : Nat) : Int),((k + 1 : Nat) : Int),((k + 1 + 1 : Nat) : Int),Vv 1 Ae (k + 1 + 1 + 1) x.outs.length⟩
def Ka (k : Nat) (x : Node) : Nat:=k + 1 + 1 + 1 + 1 * x.outs.length
def Xt {α : Type} (n : Nat → α → Nat) : Nat → List α → Nat
 | k,[]=>k
 | k,x :: xs=>Xt n (n k x) xs
def Xz {α : Type} (n : Nat → α → Nat) (m : Nat → α → α) : Nat → List α → List α
 | _,[]=>[]
 | k,x :: xs=>m k x :: Xz n m (n k x) xs
section
variable {α : Type} {n : Nat → α → Nat} {m : Nat → α → α} {cnt : α → Nat} {c : Nat}
theorem Ua : ∀ (k : Nat) (xs : List α),(Xz n m k xs).length = xs.length
 | _,[]=>rfl
 | k,x :: xs=>by simp [Xz,Ua]
theorem Do : ∀ (k : Nat) (xs : List α) (x : α),Xt n k (xs ++ [x]) = n (Xt n k xs) x
 | _,[],_=>rfl
 | k,y :: xs,x=>by simp only [List.cons_append,Xt];exact Do _ xs x
theorem Bv : ∀ (k : Nat) (xs : List α) (x : α),Xz n m k (xs ++ [x]) = Xz n m k xs ++ [m (Xt n k xs) x]
 | _,[],_=>rfl
 | k,y :: xs,x=>by simp only [List.cons_append,Xz,Xt,Bv _ xs x]
theorem V5 {k i : Nat} {xs : List α} (h : i < xs.length) : Xt n k (xs.take (i + 1)) = n (Xt n k (xs.take i)) xs[i]:=by
 rw [List.take_succ_eq_append_getElem h,Do]
theorem H8 {k i : Nat} {xs r : List α} (h : i < xs.length) : Xz n m k (xs.take (i + 1)) ++ r = Xz n m k (xs.take i) ++ m (Xt n k (xs.take i)) xs[i] :: r:=by
 rw [List.take_succ_eq_append_getElem h,Bv];simp
theorem He (h : ∀ k x,n k x ≤ k + c * (1 + cnt x)) : ∀ (k : Nat) (xs : List α),Xt n k xs ≤ k + c * X0 cnt xs
 | _,[]=>by simp [Xt]
 | k,x :: xs=>by
  have h1:=He h (n k x) xs
  have h2:=h k x
  simp only [Xt,X0,List.map_cons,List.sum_cons,List.length_cons,Nat.mul_add] at *;omega
theorem cntL_take {i : Nat} {xs : List α} : X0 cnt (xs.take i) ≤ X0 cnt xs:=by
 unfold X0
 induction xs generalizing i with
 | nil=>simp
 | cons x xs ih =>
  cases i with
  | zero=>simp
  | succ i=>have:=@ih i;simp only [List.take_succ_cons,List.length_cons,List.map_cons,List.sum_cons] at *;omega
theorem Cf {k i : Nat} {xs : List α} (h : ∀ k x,n k x ≤ k + c * (1 + cnt x)) (hi : i < xs.length) : n (Xt n k (xs.take i)) xs[i] ≤ k + c * X0 cnt xs:=by
 rw [← V5 (n:=n) hi]
 exact Nat.le_trans (He h k _) (Nat.add_le_add_left (Nat.mul_le_mul_left _ cntL_take) _)
theorem V6 (h : ∀ j k x,n j (m k x) = n j x) : ∀ (j k : Nat) (xs : List α),Xt n j (Xz n m k xs) = Xt n j xs
 | _,_,[]=>rfl
 | j,k,x :: xs=>by simp only [Xz,Xt,h,V6 h _ _ xs]
theorem H9 (hn : ∀ j k x,n j (m k x) = n j x) (h : ∀ k x,m k (m k x) = m k x) : ∀ (k : Nat) (xs : List α),Xz n m k (Xz n m k xs) = Xz n m k xs
 | _,[]=>rfl
 | k,x :: xs=>by simp only [Xz,h,hn,H9 hn h _ xs]
theorem Ck (h : ∀ k x,cnt (m k x) = cnt x) : ∀ (k : Nat) (xs : List α),X0 cnt (Xz n m k xs) = X0 cnt xs
 | _,[]=>rfl
 | k,x :: xs=>by
  have:=Ck h (n k x) xs
  simp only [X0,Xz,List.length_cons,List.map_cons,List.sum_cons,h] at *;omega
theorem Bw {k i : Nat} {xs : List α} (hm : xs = Xz n m k xs) (hi : i < xs.length) : xs[i] = m (Xt n k (xs.take i)) xs[i]:=by
 have h:=H8 (n:=n) (m:=m) (k:=k) (r:=Xz n m (Xt n k (xs.take (i + 1))) (xs.drop (i + 1))) hi
 have happ : ∀ (k : Nat) (a b : List α),Xz n m k (a ++ b) = Xz n m k a ++ Xz n m (Xt n k a) b:=by
  intro k a b
  induction a generalizing k with
  | nil=>rfl
  | cons x a ih=>simp only [List.cons_append,Xz,Xt,ih]
 rw [← happ,List.take_append_drop,← hm] at h
 have hl : (Xz n m k (xs.take i)).length = i:=by rw [Ua];simp;omega
 have:=congrArg (fun l=>l[i]?) h
 simp only [List.getElem?_append_right (Nat.le_of_eq hl),hl,Nat.sub_self,List.getElem?_cons_zero] at this
 rw [List.getElem?_eq_getElem hi,Option.some.injEq] at this
 exact this
end
theorem Ab (k : Nat) (x : Node) : Ka k x ≤ k + 4 * (1 + Xy x):=by simp only [Ka,Xy];omega
def U4 (k : Nat) (x : Link) : Nat:=k + 1 + 5 * x.queue.length + 1 + 1 + 1 + 1
def U0 (k : Nat) (x : Link) : Link:=⟨((k : Nat) : Int),Vv 5 Kr (k + 1) x.queue.length,((k + 1 + 5 * x.queue.length : Nat) : Int),((k + 1 + 5 * x.queue.length + 1 : Nat) : Int),((k + 1 + 5 * x.queue.length + 1 + 1 : Nat) : Int),((k + 1 + 5 * x.queue.length + 1 + 1 + 1 : Nat) : Int)⟩
theorem Ac (k : Nat) (x : Link) : U4 k x ≤ k + 5 * (1 + Y5 x):=by simp only [U4,Y5];omega
theorem A8 (k : Nat) (x : Worker) : Vw k x ≤ k + 5 * (1 + Q7 x):=by simp only [Vw,Q7];omega
def U5 (k : Nat) (x : Cluster) : Nat:=Xt U4 (Xt Vw (Xt Ka k x.graph.nodes) x.workers) x.links + 5 * x.tokens.length + 3 * x.news.length
def Ud (k : Nat) (x : Cluster) : Cluster :=
 ⟨⟨Xz Ka Uz k x.graph.nodes,x.graph.workers,x.graph.cap⟩,Xz Vw Hf (Xt Ka k x.graph.nodes) x.workers,Xz U4 U0 (Xt Vw (Xt Ka k x.graph.nodes) x.workers) x.links,
  Vv 5 Gp (Xt U4 (Xt Vw (Xt Ka k x.graph.nodes) x.workers) x.links) x.tokens.length,Vv 3 C2 (Xt U4 (Xt Vw (Xt Ka k x.graph.nodes) x.workers) x.links + 5 * x.tokens.length) x.news.length⟩
def outsTo (g : Graph) (k : Nat) : List Int:=((List.range k).filter (fun i=>(List.getD g.nodes i default).kind == 8)).map fun i=>((i : Nat) : Int)
def outOf (g : Graph) (x : Cell) : Bool:=Ug g x.op && ((List.getD g.nodes (Int.toNat x.op) default).kind == 8)
def workerNew (xs : List Record) : Worker:=⟨[],[],xs,[],[0,0,0,0],[false,false,false,false],[false,false,false,false],[]⟩
def T4 (x : Worker) (r : Record) : Worker:=⟨x.queue ++ [r],x.staged,x.inputs,x.cells,x.sums,x.black,x.caps,x.dones⟩
theorem cnt_kept (x : Worker) (r : Record) : Q7 (T4 x r) = Q7 x + 1:=by simp [Q7,T4];omega
theorem sent_of {n : Nat} {e : Int} (hm : n ≤ maxLen) (h : Yr e 0 (IntKind.i64.wrap (((n : Nat) : Int) - 1)) = true) : 0 ≤ e ∧ e < ((n : Nat) : Int) ∧ Int.toNat e < n:=by
 rw [isN_w hm] at h
 have:=Cd.1 h
 omega
theorem sent_no {n : Nat} {e : Int} (hm : n ≤ maxLen) (h : Yr e 0 (IntKind.i64.wrap (((n : Nat) : Int) - 1)) = false) : ¬ (0 ≤ e ∧ e < ((n : Nat) : Int)):=fun hx=>by
 rw [isN_w hm] at h
 have : Yr e 0 (((n : Nat) : Int) - 1) = true:=Cd.2 ⟨hx.1,by omega⟩
 rw [this] at h;cases h
def Tr (x : Worker) (e : Int) : Worker:=if 0 ≤ e ∧ e < ((x.sums.length : Nat) : Int) then ⟨x.queue,x.staged,x.inputs,x.cells,x.sums.set (Int.toNat e) (IntKind.i64.wrap (List.getD x.sums (Int.toNat e) default + 1)),x.black,x.caps,x.dones⟩ else x
theorem sentW_yes {x : Worker} {e : Int} (h : 0 ≤ e ∧ e < ((x.sums.length : Nat) : Int) ∧ Int.toNat e < x.sums.length) : Tr x e = ⟨x.queue,x.staged,x.inputs,x.cells,x.sums.set (Int.toNat e) (IntKind.i64.wrap ((x.sums[Int.toNat e]'h.2.2) + 1)),x.black,x.caps,x.dones⟩:=by
 rw [Tr,if_pos ⟨h.1,h.2.1⟩,Xl h.2.2]
theorem sentW_no {x : Worker} {e : Int} (hm : x.sums.length ≤ maxLen) (h : Yr e 0 (IntKind.i64.wrap (((x.sums.length : Nat) : Int) - 1)) = false) : Tr x e = x:=by
 rw [Tr,if_neg (sent_no hm h)]
theorem cnt_sent (x : Worker) (e : Int) : Q7 (Tr x e) = Q7 x:=by unfold Tr;split <;> simp [Q7]
def recvOk (x : Worker) (r : Record) : Prop:=0 ≤ r.stamp.epoch ∧ r.stamp.epoch < ((x.sums.length : Nat) : Int) ∧ r.stamp.epoch < ((x.black.length : Nat) : Int) ∧ Int.toNat r.stamp.epoch < x.sums.length ∧ Int.toNat r.stamp.epoch < x.black.length
instance (x : Worker) (r : Record) : Decidable (recvOk x r):=by unfold recvOk;infer_instance
def recvW (x : Worker) (r : Record) : Worker:=if recvOk x r then ⟨x.queue ++ [r],x.staged,x.inputs,x.cells,x.sums.set (Int.toNat r.stamp.epoch) (IntKind.i64.wrap (List.getD x.sums (Int.toNat r.stamp.epoch) default - 1)),x.black.set (Int.toNat r.stamp.epoch) true,x.caps,x.dones⟩ else T4 x r
section
variable {x y : Cluster}
end
def goN (xs : List Token) : Nat:=(xs.filter (fun t=>t.going)).length
def defS (e n : Int) (x : Worker) : Int:=if 0 ≤ e ∧ e < ((x.sums.length : Nat) : Int) then IntKind.i64.wrap (n + List.getD x.sums (Int.toNat e) default) else n
def defTo (c : Cluster) (e : Int) (k : Nat) : Int:=(c.workers.take k).foldl (defS e) 0
def Xa (l : Link) : Bool:=(((((((Yr l.cap 1 4 && Yr l.credits 0 l.cap) && Yr l.back 0 l.cap) && (IntKind.i64.wrap (IntKind.i64.wrap (l.credits + l.back) + ((l.queue.length : Nat) : Int)) == l.cap)) && Yr l.sent 0 1000000000) && (l.got == l.sent - ((l.queue.length : Nat) : Int))) && decide (0 ≤ l.got)) && l.queue.all Y2)
section
variable {x : Link}
theorem lk_i1 (h : Xa x = true) (hc : ((((!(Yr x.cap 1 4)) || (!(Yr x.credits 0 x.cap))) || (!(Yr x.back 0 x.cap))) || (IntKind.i64.wrap (IntKind.i64.wrap (x.credits + x.back) + ((x.queue.length : Nat) : Int)) != x.cap)) = true) : False:=by
 simp only [Xa,Bool.and_eq_true,beq_iff_eq] at h
 obtain ⟨⟨⟨⟨⟨⟨⟨h1,h2⟩,h3⟩,h4⟩,h5⟩,h6⟩,h7⟩,h8⟩:=h
 simp [h1,h2,h3,h4] at hc
theorem lk_i2 (hr : rg x.got) (h : Xa x = true) (hc : (((!(Yr x.sent 0 1000000000)) || (decide (x.got < 0))) || (IntKind.i64.wrap (x.sent - x.got) != ((x.queue.length : Nat) : Int))) = true) : False:=by
 simp only [Xa,Bool.and_eq_true,beq_iff_eq,decide_eq_true_eq] at h
 obtain ⟨⟨⟨⟨⟨⟨⟨h1,h2⟩,h3⟩,h4⟩,h5⟩,h6⟩,h7⟩,h8⟩:=h
 have hs:=Cd.1 h5
 unfold rg at hr
 rw [Ki (by omega) (by omega)] at hc
 simp [h5] at hc
 omega
theorem lk_i3 (hr : rg x.got) (hc : ((((!(Yr x.cap 1 4)) || (!(Yr x.credits 0 x.cap))) || (!(Yr x.back 0 x.cap))) || (IntKind.i64.wrap (IntKind.i64.wrap (x.credits + x.back) + ((x.queue.length : Nat) : Int)) != x.cap)) = false)
  (hc2 : (((!(Yr x.sent 0 1000000000)) || (decide (x.got < 0))) || (IntKind.i64.wrap (x.sent - x.got) != ((x.queue.length : Nat) : Int))) = false) : Xa x = x.queue.all Y2:=by
 simp only [Bool.or_eq_false_iff,Bool.not_eq_false',bne_eq_false_iff_eq,decide_eq_false_iff_not] at hc hc2
 obtain ⟨⟨⟨h1,h2⟩,h3⟩,h4⟩:=hc
 obtain ⟨⟨h5,h6⟩,h7⟩:=hc2
 have hs:=Cd.1 h5
 unfold rg at hr
 rw [Ki (by omega) (by omega)] at h7
 have h8 : (x.got == x.sent - ((x.queue.length : Nat) : Int)) = true:=by rw [beq_iff_eq];omega
 have h9 : decide (0 ≤ x.got) = true:=decide_eq_true (by omega)
 simp only [Xa,h1,h2,h3,h4,h5,h8,h9];simp
theorem lk_s1 {k : Nat} (h1 : k < x.queue.length) (h : Xa x = true) (hc : (!(Y2 x.queue[k])) = true) : False:=by
 simp only [Xa,Bool.and_eq_true] at h
 have:=List.all_eq_true.1 h.2 _ (List.getElem_mem h1)
 simp [this] at hc
theorem lk_s2 (hm : x.queue.length ≤ maxLen) (ha : x.queue.all Y2 = true) : Xa x = ((((((Yr x.cap 1 4 && Yr x.credits 0 x.cap) && Yr x.back 0 x.cap) && (IntKind.i64.wrap (IntKind.i64.wrap (x.credits + x.back) + ((x.queue.length : Nat) : Int)) == x.cap)) && Yr x.sent 0 1000000000) && (x.got == IntKind.i64.wrap (x.sent - ((x.queue.length : Nat) : Int)))) && decide (0 ≤ x.got)):=by
 unfold maxLen at hm
 cases h5 : Yr x.sent 0 1000000000 with
 | false=>simp [Xa,h5]
 | true =>
  have hs:=Cd.1 h5
  rw [Ki (z:=x.sent - ((x.queue.length : Nat) : Int)) (by omega) (by omega)]
  simp only [Xa,h5,ha,Bool.and_true]
end
def A3 (g : Graph) (k : Nat) (l : Link) : Bool:=((!(Xa l) || (l.cap != g.cap)) || !(l.queue.all (Xo g))) || ((IntKind.i64.wrap (Int.tdiv ((k : Nat) : Int) g.workers) == Int.tmod ((k : Nat) : Int) g.workers) && decide (0 < ((l.queue.length : Nat) : Int)))
def tkBad (g : Graph) (t : Token) : Bool:=(!(Yr t.place 0 (IntKind.i64.wrap (g.workers - 1))) || (!t.going && (t.place != 0))) || !(Yr t.sum (-1000000) 1000000)
def nwBad (g : Graph) (t : News) : Bool:=!(Yr t.dest 0 (IntKind.i64.wrap (g.workers - 1))) || !(Yr t.epoch 0 3)
def Hn (c : Cluster) : Bool:=((!(Xb c.graph) || (((c.workers.length : Nat) : Int) != c.graph.workers)) || (((c.links.length : Nat) : Int) != IntKind.i64.wrap (c.graph.workers * c.graph.workers))) || (((c.tokens.length : Nat) : Int) != 4)
def Kf (c : Cluster) : Bool:=!(Hn c) && c.workers.all (Xd c.graph) && Ho c.links.length (fun j=>!A3 c.graph j (List.getD c.links j default)) && c.tokens.all (fun t=>!tkBad c.graph t) && c.news.all (fun t=>!nwBad c.graph t)
theorem nb {b : Bool} (h : b = false) : (!b) = true:=by rw [h];rfl
section
variable {x : Cluster} {k : Nat}
theorem lk_at (h1 : k < x.links.length) (h : A3 x.graph k x.links[k] = false) : (fun j=>!A3 x.graph j (List.getD x.links j default)) k = true:=by
 show (!A3 x.graph k (List.getD x.links k default)) = true
 rw [Xl h1,h];rfl
theorem cl_g (h : Hn x = false) : 1 ≤ x.graph.workers ∧ x.graph.workers ≤ 4:=by
 simp only [Hn,Bool.or_eq_false_iff,Bool.not_eq_false'] at h
 have h1:=h.1.1.1
 simp only [Xb,Af,Bool.and_eq_true,Bool.not_eq_true',Bool.or_eq_false_iff,Bool.not_eq_false'] at h1
 exact Cd.1 h1.1.1.2
theorem cl_w (h : Hn x = false) : ((x.workers.length : Nat) : Int) = x.graph.workers:=by
 simp only [Hn,Bool.or_eq_false_iff,bne_eq_false_iff_eq] at h
 exact h.1.1.2
theorem cl_0 (h : Hn x = true) : Value.bool false = .bool (Kf x):=by simp only [Kf,h];rfl
theorem cl_1 (h1 : k < x.workers.length) (h : Xd x.graph x.workers[k] = false) : Value.bool false = .bool (Kf x):=bf fun hq=>by
 simp only [Kf,Bool.and_eq_true] at hq
 have:=List.all_eq_true.1 hq.1.1.1.2 _ (List.getElem_mem h1)
 rw [h] at this;cases this
theorem cl_2 (h1 : k < x.links.length) (h : A3 x.graph k x.links[k] = true) : Value.bool false = .bool (Kf x):=bf fun hq=>by
 simp only [Kf,Bool.and_eq_true] at hq
 have:=G7 hq.1.1.2 h1
 rw [Xl h1,h] at this;cases this
theorem cl_3 (h1 : k < x.tokens.length) (h : tkBad x.graph x.tokens[k] = true) : Value.bool false = .bool (Kf x):=bf fun hq=>by
 simp only [Kf,Bool.and_eq_true] at hq
 have:=List.all_eq_true.1 hq.1.2 _ (List.getElem_mem h1)
 rw [h] at this;cases this
theorem cl_4 (h1 : k < x.news.length) (h : nwBad x.graph x.news[k] = true) : Value.bool false = .bool (Kf x):=bf fun hq=>by
 simp only [Kf,Bool.and_eq_true] at hq
 have:=List.all_eq_true.1 hq.2 _ (List.getElem_mem h1)
 rw [h] at this;cases this
theorem cl_5 (h0 : Hn x = false) (h1 : x.workers.all (Xd x.graph) = true) (h2 : Ho x.links.length (fun j=>!A3 x.graph j (List.getD x.links j default)) = true) (h3 : x.tokens.all (fun t=>!tkBad x.graph t) = true) (h4 : x.news.all (fun t=>!nwBad x.graph t) = true) : Value.bool true = .bool (Kf x) :=
 bt (by simp only [Kf,h0,h1,h2,h3,h4];rfl)
end
section
variable {α : Type} {xs ys : List α} {p : α → Bool} {i j : Nat}
end
def putLt (x y : Cell) : Bool:=decide (Hh y x < 0)
def putAt (xs : List Cell) (x : Cell) : Nat:=xs.findIdx (fun y=>!(putLt x y))
def putM (xs : List Cell) (x : Cell) : List Cell:=if x ∈ xs then xs else insM xs (putAt xs x) x
section
variable {xs : List Cell} {x : Cell} {k : Nat}
end
theorem putM_len (xs : List Cell) (x : Cell) : (putM xs x).length ≤ xs.length + 1:=by
 unfold putM
 split
 ·omega
 ·simp [insM];omega
def Kl (xs : List Cell) (x : Cell) : List Cell × Bool :=
 if ((K7 xs x.op x.epoch x.key).2 && decide ((K7 xs x.op x.epoch x.key).1 ≤ x.val)) = true then (xs,false) else (putM (xs.filter (fun y=>!(Hr x y))) x,true)
def recallM (kind : Int) (xs : List Cell) (x : Cell) : List Cell × Bool :=
 if (kind == 5) = true ∨ (kind == 8) = true then Kl xs x else if (kind == 6) = true then (putM xs x,!decide (x ∈ xs)) else (xs,true)
section
variable {kind : Int} {xs : List Cell} {x y : Cell}
theorem A4 (h : ((K7 xs x.op x.epoch x.key).2 && decide ((K7 xs x.op x.epoch x.key).1 ≤ x.val)) = true) : Kl xs x = (xs,false):=by rw [Kl,if_pos h]
theorem betterM_no (h : ((K7 xs x.op x.epoch x.key).2 && decide ((K7 xs x.op x.epoch x.key).1 ≤ x.val)) = false) : Kl xs x = (putM (xs.filter (fun y=>!(Hr x y))) x,true):=by rw [Kl,if_neg (by rw [h];simp)]
theorem betterM_len : (Kl xs x).1.length ≤ xs.length + 1:=by
 unfold Kl
 split
 ·simp
 ·exact Nat.le_trans (putM_len _ _) (by have:=List.length_filter_le (fun y=>!(Hr x y)) xs;omega)
end
def changedM (x : Node) (a b : Int) : Int × Int × Bool :=
 if (!(Ke x) || !(Yr a 0 99 && Yr b 0 999)) = true then (a,b,false)
 else if (x.kind == 2) = true then (a,(if IntKind.i64.wrap (b + x.a) < 999 then IntKind.i64.wrap (b + x.a) else 999),true)
 else if (x.kind == 4) = true then (Int.tmod (IntKind.i64.wrap (a + x.a)) 100,b,true)
 else if (x.kind == 3) = true then (a,b,Int.tmod a x.a == x.b)
 else (a,b,x.kind != 8)
section
variable {x : Node} {a b : Int}
end
def Aw (g : Graph) (x : Cell) : Bool:=((!(Xb g) || !(Ug g x.op)) || !(Yr x.epoch 0 3)) || !(Yr x.key 0 99 && Yr x.val 0 999)
def impCh (g : Graph) (x : Cell) : Int × Int × Bool:=changedM (List.getD g.nodes (Int.toNat x.op) default) x.key x.val
def impTo (g : Graph) (x : Cell) (k : Nat) : List Cell:=((List.getD g.nodes (Int.toNat x.op) default).outs.take k).map fun n=>⟨n,x.epoch,(impCh g x).1,(impCh g x).2.1⟩
def K2 (g : Graph) (best : List Cell) (x : Cell) : List Cell × List Cell :=
 if Aw g x = true then (best,[]) else if (!((Kl best x).2) || !((impCh g x).2.2)) = true then ((Kl best x).1,[]) else ((Kl best x).1,impTo g x (List.getD g.nodes (Int.toNat x.op) default).outs.length)
section
variable {g : Graph} {xs : List Cell} {x : Cell} {k : Nat}
theorem imp_of (h : Aw g x = false) : Xb g = true ∧ Ug g x.op = true:=by
 simp only [Aw,Bool.or_eq_false_iff,Bool.not_eq_false'] at h
 exact h.1.1
theorem imp_0 (h : Aw g x = true) : K2 g xs x = (xs,[]):=by rw [K2,if_pos h]
theorem impTo_len (g : Graph) (x : Cell) (k : Nat) : (impTo g x k).length ≤ k:=by simp only [impTo,List.length_map,List.length_take];omega
theorem improve_len1 : (K2 g xs x).1.length ≤ xs.length + 1:=by
 unfold K2
 split
 ·simp
 ·split <;> exact betterM_len
theorem improve_len2 : (K2 g xs x).2.length ≤ 2:=by
 unfold K2
 split
 ·simp
 ·rename_i h
  split
  ·simp
  ·have hq:=imp_of (Bool.eq_false_iff.2 h)
   have:=outs_two (i:=Int.toNat x.op) hq.1 (Dq hq.2).2.2
   exact Nat.le_trans (impTo_len _ _ _) this
end
section
variable {g : Graph} {xs : List Cell} {x : Cell} {k : Nat}
theorem better_no (h : (Kl xs x).2 = false) : (Kl xs x).1 = xs:=by
 unfold Kl at *
 split at h
 ·rename_i hq;rw [if_pos hq]
 ·cases h
def icP (g : Graph) (xs : List Cell) (x : Cell) : Bool:=((K2 g [] x).2).all (nwP xs)
def isClosedM (g : Graph) (xs : List Cell) : Bool:=Xb g && xs.all (icP g xs)
end
def Q9 (x : Worker) : Worker × Record × Bool:=if x.staged.length = 0 then (x,⟨0,⟨0,0⟩,0,0⟩,false) else (⟨x.queue,x.staged.drop 1,x.inputs,x.cells,x.sums,x.black,x.caps,x.dones⟩,List.getD x.staged 0 default,true)
theorem unst_no {x : Worker} (h : (((x.staged.length : Nat) : Int) == 0) = true) : Q9 x = (x,⟨0,⟨0,0⟩,0,0⟩,false):=by
 have h0 : x.staged.length = 0:=by have:=eq_of_beq h;omega
 rw [Q9,if_pos h0]
theorem unst_lt {x : Worker} (h : (((x.staged.length : Nat) : Int) == 0) = false) : 0 < x.staged.length:=by
 have h0 : ((x.staged.length : Nat) : Int) ≠ 0:=fun e=>by rw [e] at h;cases h
 omega
theorem unst_yes {x : Worker} (h : 0 < x.staged.length) : Q9 x = (⟨x.queue,x.staged.drop 1,x.inputs,x.cells,x.sums,x.black,x.caps,x.dones⟩,x.staged[0],true):=by
 rw [Q9,if_neg (by omega),Xl h]
theorem B2 (x : Worker) : Q7 (Q9 x).1 ≤ Q7 x:=by
 unfold Q9
 split
 ·exact Nat.le_refl _
 ·simp [Q7]
def takeBad (g : Graph) (x : Worker) : Bool:=((((!(Xb g) || !(Xd g x)) || (decide (0 < ((x.staged.length : Nat) : Int)))) || (decide (0 < ((x.queue.length : Nat) : Int)))) || (((x.inputs.length : Nat) : Int) == 0))
def takeM (g : Graph) (x : Worker) : Worker × Bool:=if takeBad g x = true then (x,false) else (⟨x.queue ++ [List.getD x.inputs 0 default],x.staged,x.inputs.drop 1,x.cells,x.sums,x.black,x.caps,x.dones⟩,true)
section
variable {g : Graph} {x : Worker}
end
def stBad (g : Graph) (r : Record) : Bool:=(!(Xb g) || !(Y2 r)) || !(Ug g r.op)
def Ao (g : Graph) (r : Record) : Node:=List.getD g.nodes (Int.toNat r.op) default
def stCh (g : Graph) (r : Record) : Int × Int × Bool:=changedM (Ao g r) r.key r.val
def stRec (g : Graph) (cs : List Cell) (r : Record) : List Cell × Bool:=recallM (Ao g r).kind cs ⟨r.op,r.stamp.epoch,r.key,r.val⟩
def stTo (g : Graph) (r : Record) (s : Stamp) (k : Nat) : List Record:=((Ao g r).outs.take k).map fun n=>⟨n,s,(stCh g r).1,(stCh g r).2.1⟩
def A6 (g : Graph) (r : Record) : Stamp × Bool:=if ((Ao g r).kind == 7) = true then nextT r.stamp else (r.stamp,true)
def Cp (g : Graph) (cs : List Cell) (r : Record) : List Cell × List Record × Bool :=
 if stBad g r = true then (cs,[],false)
 else if (!((stCh g r).2.2) && ((Ao g r).kind != 8)) = true then (cs,[],true)
 else if (!((stRec g cs r).2)) = true then ((stRec g cs r).1,[],true)
 else ((stRec g cs r).1,if (A6 g r).2 = true then stTo g r (A6 g r).1 (Ao g r).outs.length else [],true)
def stOut (g : Graph) (r : Record) (k : Nat) : List Record:=if (A6 g r).2 = true then stTo g r (A6 g r).1 k else []
section
variable {g : Graph} {cs : List Cell} {r : Record} {x : Node} {k : Nat}
end
section
variable {g : Graph} {cs : List Cell} {r : Record}
end
def workBad (g : Graph) (x : Worker) : Bool:=(((!(Xb g) || !(Xd g x)) || (decide (0 < ((x.staged.length : Nat) : Int)))) || (((x.queue.length : Nat) : Int) == 0))
def Ay (x : Worker) : Record:=List.getD x.queue 0 default
def workM (g : Graph) (x : Worker) : Worker × Bool:=if workBad g x = true then (x,false) else
 (⟨x.queue.drop 1,(Cp g x.cells (Ay x)).2.1,x.inputs,(Cp g x.cells (Ay x)).1,x.sums,x.black,if cappedM g (Ay x) = true then x.caps.set (Int.toNat (Ay x).stamp.epoch) true else x.caps,x.dones⟩,true)
section
variable {g : Graph} {x : Worker}
end
def brM (n a b : Int) : Int:=if (decide (b < a) || decide (n < a)) = true then a else if b < n then b else n
def allM (g : Graph) : Nat → List Cell → List Record → List Cell × List Record × Nat
 | 0,cs,rs=>(cs,rs,0)
 | m + 1,cs,rs=>if rs.length = 0 then (cs,rs,0) else
  ((allM g m (Cp g cs (List.getD rs 0 default)).1 (rs.drop 1 ++ (Cp g cs (List.getD rs 0 default)).2.1)).1,
  (allM g m (Cp g cs (List.getD rs 0 default)).1 (rs.drop 1 ++ (Cp g cs (List.getD rs 0 default)).2.1)).2.1,
  (allM g m (Cp g cs (List.getD rs 0 default)).1 (rs.drop 1 ++ (Cp g cs (List.getD rs 0 default)).2.1)).2.2 + 1)
def stepAllM (g : Graph) (cs : List Cell) (rs : List Record) (most : Int) : List Cell × List Record × Nat:=allM g (Int.toNat (brM most 0 100000)) cs rs
section
variable {g : Graph} {cs cs0 : List Cell} {rs rs0 : List Record} {r : Record} {k m : Nat}
end
def T0 (op e k : Int) (y : Cell) : Bool:=Hr y ⟨op,e,k,0⟩
def psiF (b : List Cell) (c : Nat) : Nat:=if (K7 b ((c / 400 : Nat) : Int) ((c / 100 % 4 : Nat) : Int) ((c % 100 : Nat) : Int)).2 = true then Int.toNat (K7 b ((c / 400 : Nat) : Int) ((c / 100 % 4 : Nat) : Int) ((c % 100 : Nat) : Int)).1 else 1000
def De (f : Nat → Nat) : Nat → Nat
 | 0=>0
 | n + 1=>De f n + f n
def psi (b : List Cell) : Nat:=De (psiF b) 3200
theorem psiS_eq {f f' : Nat → Nat} : ∀ n,(∀ c,c < n → f' c = f c) → De f' n = De f n
 | 0,_=>rfl
 | n + 1,h=>by rw [De,De,psiS_eq n (fun c hc=>h c (by omega)),h n (by omega)]
theorem psiS_lt {f f' : Nat → Nat} {c0 : Nat} (h0 : f' c0 < f c0) (h : ∀ c,c ≠ c0 → f' c = f c) : ∀ n,c0 < n → De f' n < De f n
 | 0,hn=>by omega
 | n + 1,hn=>by
  rw [De,De]
  by_cases e : c0 = n
  ·subst e
   rw [psiS_eq c0 (fun c hc=>h c (by omega))];omega
  ·have:=psiS_lt h0 h n (by omega)
   rw [h n (by omega)];omega
section
variable {xs : List Cell} {x : Cell} {op e k n : Int} {s : Bool}
theorem Vx : ∀ (xs : List Cell) (n : Int) (s : Bool),Gr op e k xs n s = Gr op e k (xs.filter (T0 op e k)) n s
 | [],_,_=>rfl
 | x :: xs,n,s=>by
  rw [Gr]
  by_cases h : T0 op e k x = true
  ·rw [List.filter_cons_of_pos h,Gr,← Vx xs,← Vx xs]
  ·rw [List.filter_cons_of_neg h,← Vx xs]
   have h' : Hr x ⟨op,e,k,0⟩ = false:=Bool.eq_false_iff.2 h
   rw [h'];simp
theorem Hk (xs : List Cell) : K7 xs op e k = Gr op e k (xs.filter (T0 op e k)) 0 false:=Vx xs 0 false
theorem slot_iff {x y : Cell} : Hr x y = true ↔ x.op = y.op ∧ x.epoch = y.epoch ∧ x.key = y.key:=by
 simp [Hr,and_assoc]
theorem better_own (h : (Kl xs x).2 = true) : K7 (Kl xs x).1 x.op x.epoch x.key = (x.val,true):=by
 have hc : ((K7 xs x.op x.epoch x.key).2 && decide ((K7 xs x.op x.epoch x.key).1 ≤ x.val)) = false:=by
  cases hq : ((K7 xs x.op x.epoch x.key).2 && decide ((K7 xs x.op x.epoch x.key).1 ≤ x.val))
  ·rfl
  ·rw [A4 hq] at h;cases h
 rw [betterM_no hc]
 have hx : Hr x x = true:=slot_iff.2 ⟨rfl,rfl,rfl⟩
 have hn : x ∉ xs.filter (fun y=>!(Hr x y)):=fun hm=>by
  have:=(List.mem_filter.1 hm).2
  rw [hx] at this;cases this
 have hz : (xs.filter (fun y=>!(Hr x y))).filter (T0 x.op x.epoch x.key) = []:=by
  rw [List.filter_filter,List.filter_eq_nil_iff]
  intro y _ hy
  simp only [Bool.and_eq_true,Bool.not_eq_true'] at hy
  have h1:=slot_iff.1 (show Hr y ⟨x.op,x.epoch,x.key,0⟩ = true from hy.1)
  rw [show Hr x y = true from slot_iff.2 ⟨h1.1.symm,h1.2.1.symm,h1.2.2.symm⟩] at hy
  cases hy.2
 have hs : T0 x.op x.epoch x.key x = true:=slot_iff.2 ⟨rfl,rfl,rfl⟩
 rw [Hk,putM,if_neg hn]
 generalize hl : xs.filter (fun y=>!(Hr x y)) = l at hz
 have ha : (l.take (putAt l x)).filter (T0 x.op x.epoch x.key) = []:=by
  rw [List.filter_eq_nil_iff] at hz ⊢;exact fun y hy=>hz y (List.mem_of_mem_take hy)
 have hb : (l.drop (putAt l x)).filter (T0 x.op x.epoch x.key) = []:=by
  rw [List.filter_eq_nil_iff] at hz ⊢;exact fun y hy=>hz y (List.mem_of_mem_drop hy)
 simp only [insM,List.filter_append,List.filter_cons,ha,hb,hs,if_true,List.nil_append]
 have hs' : Hr x ⟨x.op,x.epoch,x.key,0⟩ = true:=hs
 simp [Gr,hs']
theorem better_other (h : ¬ (op = x.op ∧ e = x.epoch ∧ k = x.key)) : K7 (Kl xs x).1 op e k = K7 xs op e k:=by
 unfold Kl
 split
 ·rfl
 ·have hf : (xs.filter (fun y=>!(Hr x y))).filter (T0 op e k) = xs.filter (T0 op e k):=by
   rw [List.filter_filter]
   refine List.filter_congr fun y _=>?_
   cases hy : T0 op e k y with
   | false=>simp
   | true =>
    have h1:=slot_iff.1 (show Hr y ⟨op,e,k,0⟩ = true from hy)
    have h2 : Hr x y = false:=Bool.eq_false_iff.2 fun hq=>h (by
     have h3:=slot_iff.1 hq
     exact ⟨(h3.1.trans h1.1).symm,(h3.2.1.trans h1.2.1).symm,(h3.2.2.trans h1.2.2).symm⟩)
    rw [h2];rfl
  have hs : T0 op e k x = false:=Bool.eq_false_iff.2 fun hq=>by
   have h1:=slot_iff.1 (show Hr x ⟨op,e,k,0⟩ = true from hq)
   exact h ⟨h1.1.symm,h1.2.1.symm,h1.2.2.symm⟩
  rw [Hk,Hk xs]
  congr 1
  unfold putM
  split
  ·exact hf
  ·rw [← hf]
   generalize xs.filter (fun y=>!(Hr x y)) = l
   simp only [insM,List.filter_append,List.filter_cons,hs]
   simp only [Bool.false_eq_true,if_false]
   rw [← List.filter_append,List.take_append_drop]
theorem psi_better (h : (Kl xs x).2 = true) (ho : 0 ≤ x.op ∧ x.op < 8) (he : 0 ≤ x.epoch ∧ x.epoch ≤ 3) (hk : 0 ≤ x.key ∧ x.key ≤ 99) (hv : 0 ≤ x.val ∧ x.val ≤ 999) : psi (Kl xs x).1 < psi xs:=by
 have hc : ((K7 xs x.op x.epoch x.key).2 && decide ((K7 xs x.op x.epoch x.key).1 ≤ x.val)) = false:=by
  cases hq : ((K7 xs x.op x.epoch x.key).2 && decide ((K7 xs x.op x.epoch x.key).1 ≤ x.val))
  ·rfl
  ·rw [A4 hq] at h;cases h
 refine psiS_lt (c0:=Int.toNat (x.op * 400 + x.epoch * 100 + x.key)) ?_ (fun c hn=>?_) 3200 (by omega)
 ·have e1 : ((Int.toNat (x.op * 400 + x.epoch * 100 + x.key) / 400 : Nat) : Int) = x.op:=by omega
  have e2 : ((Int.toNat (x.op * 400 + x.epoch * 100 + x.key) / 100 % 4 : Nat) : Int) = x.epoch:=by omega
  have e3 : ((Int.toNat (x.op * 400 + x.epoch * 100 + x.key) % 100 : Nat) : Int) = x.key:=by omega
  unfold psiF
  rw [e1,e2,e3,better_own h,if_pos rfl]
  split
  ·rename_i hf
   rw [hf,Bool.true_and,decide_eq_false_iff_not] at hc
   simp only [];omega
  ·simp only [];omega
 ·have hne : ¬ (((c / 400 : Nat) : Int) = x.op ∧ ((c / 100 % 4 : Nat) : Int) = x.epoch ∧ ((c % 100 : Nat) : Int) = x.key):=fun hq=>hn (by omega)
  unfold psiF
  rw [better_other hne]
end
theorem fix_step (g : Graph) (b : List Cell) (x : Cell) : (psi (K2 g b x).1 + 1 ≤ psi b ∧ (K2 g b x).1.length ≤ b.length + 1 ∧ (K2 g b x).2.length ≤ 2) ∨ (K2 g b x = (b,[])):=by
 have h1:=@improve_len1 g b x
 have h2:=@improve_len2 g b x
 by_cases hb : Aw g x = true
 ·exact .inr (imp_0 hb)
 ·have hq:=imp_of (Bool.eq_false_iff.2 hb)
  have hop:=Dq hq.2
  have hl:=gok_len hq.1
  have hb':=Bool.eq_false_iff.2 hb
  simp only [Aw,Yr,Bool.or_eq_false_iff,Bool.not_eq_false',Bool.and_eq_true,decide_eq_true_eq] at hb'
  by_cases hc : (Kl b x).2 = true
  ·refine .inl ⟨?_,h1,h2⟩
   have:=psi_better hc (by omega) (by omega) (by omega) (by omega)
   rw [K2,if_neg hb]
   split <;> exact this
  ·have hc':=Bool.eq_false_iff.2 hc
   exact .inr (by rw [K2,if_neg hb,if_pos (by rw [hc'];rfl),better_no hc'])
def fixGo (g : Graph) (b l : List Cell) : List Cell :=
 match l with
 | []=>b
 | x :: l=>fixGo g (K2 g b x).1 (l ++ (K2 g b x).2)
termination_by 3 * psi b + l.length
decreasing_by
 rcases fix_step g b x with h | h
 ·simp only [List.length_append,List.length_cons];omega
 ·rw [h];simp only [List.append_nil,List.length_cons];omega
def fixIn (e : Int) (rs : List Record) : List Cell:=(rs.filter (fun r=>ofE e r && Y2 r)).map fun r=>⟨0,e,r.key,r.val⟩
def fixM (g : Graph) (e : Int) (rs : List Record) : List Cell:=fixGo g [] (fixIn e rs)
def fixT (e : Int) (p : Record → Bool) (rs : List Record) (k : Nat) : List Cell:=((rs.take k).filter p).map fun r=>⟨0,e,r.key,r.val⟩
section
variable {g : Graph} {b l : List Cell} {x : Cell} {e : Int} {rs : List Record} {p : Record → Bool} {k : Nat}
end
theorem Cy (j k : Nat) (x : Node) : Ka j (Uz k x) = Ka j x:=by simp [Ka,Uz,Qi]
theorem markN1_idem (k : Nat) (x : Node) : Uz k (Uz k x) = Uz k x:=by simp [Uz,Qi]
theorem Cz (j k : Nat) (x : Link) : U4 j (U0 k x) = U4 j x:=by simp [U4,U0,Qi]
theorem markL1_idem (k : Nat) (x : Link) : U0 k (U0 k x) = U0 k x:=by simp [U0,Qi]
theorem Bq (j k : Nat) (x : Cluster) : U5 j (Ud k x) = U5 j x:=by simp [U5,Ud,Qi,V6 Cy,V6 As,V6 Cz]
theorem A1 (k : Nat) (x : Cluster) : Ud k x = Ud k (Ud k x):=by
 simp [Ud,Qi,V6 Cy,V6 As,V6 Cz,H9 Cy markN1_idem,H9 As (fun k x=>(markW_idem k x).symm),H9 Cz markL1_idem]
theorem B4 (k : Nat) (x : Cluster) : Yb (Ud k x) = Yb x:=by
 simp [Yb,Xe,Ud,Qi,Ck (cnt:=Xy) (n:=Ka) (m:=Uz) (fun k x=>by simp [Xy,Uz,Qi]),Ck (cnt:=Q7) (n:=Vw) (m:=Hf) cntW_mark,Ck (cnt:=Y5) (n:=U4) (m:=U0) (fun k x=>by simp [Y5,U0,Qi])]
def inpTo (x : Cluster) (e : Int) (k : Nat) : List Record:=(x.workers.take k).flatMap fun w=>w.inputs.filter (ofE e)
def Ql (k w : Int) : Int:=if w < 1 then 0 else if Int.tmod k w < 0 then Int.tmod k w + w else Int.tmod k w
theorem owner_in {k w : Int} (h : 1 ≤ w) : 0 ≤ Ql k w ∧ Ql k w < w:=by
 have h1:=Int.tmod_lt_of_pos k (show 0 < w by omega)
 have h2 : -w < Int.tmod k w:=Int.lt_tmod_of_pos k (by omega)
 unfold Ql
 rw [if_neg (by omega)]
 split <;> omega
def linkNew (c : Int) : Link:=⟨brM c 1 4,[],brM c 1 4,0,0,0⟩
def Yf (l : Link) (r : Record) : Link × Bool :=
 if Xa l = true ∧ Y2 r = true ∧ l.credits ≠ 0 ∧ l.sent ≠ 1000000000 then (⟨l.cap,l.queue ++ [r],IntKind.i64.wrap (l.credits - 1),l.back,IntKind.i64.wrap (l.sent + 1),l.got⟩,true) else (l,false)
def Aa (l : Link) : Link × Record × Bool :=
 if Xa l = true ∧ 0 < l.queue.length then (⟨l.cap,l.queue.drop 1,l.credits,IntKind.i64.wrap (l.back + 1),l.sent,IntKind.i64.wrap (l.got + 1)⟩,List.getD l.queue 0 default,true) else (l,⟨0,⟨0,0⟩,0,0⟩,false)
def Bd (l : Link) : Link × Bool :=
 if Xa l = true ∧ l.back ≠ 0 then (⟨l.cap,l.queue,IntKind.i64.wrap (l.credits + 1),IntKind.i64.wrap (l.back - 1),l.sent,l.got⟩,true) else (l,false)
section
variable {l : Link} {r : Record}
theorem link_sent (h : Xa l = true) : l.sent ≤ 1000000000:=by
 simp only [Xa,Bool.and_eq_true,Cd] at h
 omega
theorem send_no (h : ((((!(Xa l)) || (!(Y2 r))) || (l.credits == 0)) || (l.sent == 1000000000)) = true) : Yf l r = (l,false):=by
 unfold Yf;rw [if_neg];rintro ⟨a,b,c,d⟩;simp [a,b,c,d] at h
theorem send_yes (h : ((((!(Xa l)) || (!(Y2 r))) || (l.credits == 0)) || (l.sent == 1000000000)) = false) : Yf l r = (⟨l.cap,l.queue ++ [r],IntKind.i64.wrap (l.credits - 1),l.back,IntKind.i64.wrap (l.sent + 1),l.got⟩,true):=by
 unfold Yf;rw [if_pos];simpa [and_assoc] using h
theorem send_s (b : Bool) (h : ((((!(Xa l)) || (!(Y2 r))) || (l.credits == 0)) || (decide (l.sent ≥ 1000000000))) = b) : ((((!(Xa l)) || (!(Y2 r))) || (l.credits == 0)) || (l.sent == 1000000000)) = b:=by
 rw [← h]
 cases hk : Xa l with
 | false=>simp
 | true =>
  have:=link_sent hk
  congr 1
  rw [Bool.eq_iff_iff];simp only [beq_iff_eq,decide_eq_true_eq];omega
theorem cnt_send : Y5 (Yf l r).1 ≤ Y5 l + 1:=by unfold Yf;split <;> simp [Y5]
end
def Tu (x : Cluster) (w : Int) : Bool:=Kf x && Yr w 0 (IntKind.i64.wrap (((x.workers.length : Nat) : Int) - 1))
def Gq (x : Cluster) (a b : Int) : Int:=if ((!(Kf x)) || (a == b)) = true then -1 else Qu x.graph a b
def K3 (x : Cluster) (w : Int) : Worker:=List.getD x.workers (Int.toNat w) default
def Dg (x : Cluster) (k : Int) : Link:=List.getD x.links (Int.toNat k) default
def Yn (x : Cluster) (w : Int) (y : Worker) : Cluster:={ x with workers:=x.workers.set (Int.toNat w) y }
def Yh (x : Cluster) (k : Int) (y : Link) : Cluster:={ x with links:=x.links.set (Int.toNat k) y }
def pickInput (x : Cluster) (w : Int) : Cluster × Bool:=if Tu x w = true then (Yn x w (takeM x.graph (K3 x w)).1,(takeM x.graph (K3 x w)).2) else (x,false)
def pickWork (x : Cluster) (w : Int) : Cluster × Bool:=if Tu x w = true then (Yn x w (workM x.graph (K3 x w)).1,(workM x.graph (K3 x w)).2) else (x,false)
def pickCredit (x : Cluster) (a b : Int) : Cluster × Bool:=if Gq x a b < 0 then (x,false) else (Yh x (Gq x a b) (Bd (Dg x (Gq x a b))).1,(Bd (Dg x (Gq x a b))).2)
def pickTake (x : Cluster) (a b : Int) : Cluster × Bool:=if Gq x a b < 0 then (x,false) else
 if (Aa (Dg x (Gq x a b))).2.2 = true then (Yn (Yh x (Gq x a b) (Aa (Dg x (Gq x a b))).1) b (recvW (K3 x b) (Aa (Dg x (Gq x a b))).2.1),true) else (x,false)
def mvR (x : Cluster) (w : Int) : Record:=(Q9 (K3 x w)).2.1
def mvO (x : Cluster) (w : Int) : Int:=Ql (mvR x w).key x.graph.workers
def mvS (x : Cluster) (w : Int) : Link × Bool:=Yf (Dg x (Qu x.graph w (mvO x w))) (mvR x w)
def Qp (x : Cluster) (w : Int) : Cluster × Bool:=if Tu x w = true ∧ 0 < (K3 x w).staged.length then
 if mvO x w = w then (Yn x w (T4 (Q9 (K3 x w)).1 (mvR x w)),true) else
 if (mvS x w).2 = true then (Yn (Yh x (Qu x.graph w (mvO x w)) (mvS x w).1) w (Tr (Q9 (K3 x w)).1 (mvR x w).stamp.epoch),true) else (x,false) else (x,false)
section
variable {x : Cluster} {a b w : Int}
theorem Hv (h : Kf x = true) : Hn x = false:=by
 simp only [Kf,Bool.and_eq_true,Bool.not_eq_true'] at h
 exact h.1.1.1.1
theorem clOk_l (h : Kf x = true) : ((x.links.length : Nat) : Int) = x.graph.workers * x.graph.workers:=by
 have h1:=Hv h
 have hg:=cl_g h1
 simp only [Hn,Bool.or_eq_false_iff,bne_eq_false_iff_eq] at h1
 have h2:=h1.1.2
 rwa [Ki (by
  have:=Int.mul_nonneg (show 0 ≤ x.graph.workers by omega) (show 0 ≤ x.graph.workers by omega)
  omega) (by
  have:=Int.mul_le_mul hg.2 hg.2 (by omega) (by omega)
  omega)] at h2
theorem linkM_in (h : Kf x = true) (hp : ¬ (a < 0 ∨ b < 0 ∨ x.graph.workers ≤ a ∨ x.graph.workers ≤ b)) : Qu x.graph a b = a * x.graph.workers + b ∧ 0 ≤ a * x.graph.workers + b ∧ a * x.graph.workers + b < ((x.links.length : Nat) : Int) ∧ Int.toNat (Qu x.graph a b) < x.links.length:=by
 have hl:=clOk_l h
 have hg:=cl_g (Hv h)
 have h1 : 0 ≤ a * x.graph.workers:=Int.mul_nonneg (by omega) (by omega)
 have h2 : a * x.graph.workers ≤ (x.graph.workers - 1) * x.graph.workers:=Int.mul_le_mul_of_nonneg_right (by omega) (by omega)
 rw [Int.sub_mul] at h2
 have h3 : x.graph.workers * x.graph.workers ≤ 4 * 4:=Int.mul_le_mul hg.2 hg.2 (by omega) (by omega)
 have e : Qu x.graph a b = a * x.graph.workers + b:=by
  rw [Qu,if_neg hp,Ki (z:=a * x.graph.workers) (by omega) (by omega),Ki (by omega) (by omega)]
 rw [e]
 refine ⟨rfl,by omega,by omega,by omega⟩
theorem Ba (hm : x.workers.length ≤ maxLen) (h : Tu x w = true) : Kf x = true ∧ 0 ≤ w ∧ w < ((x.workers.length : Nat) : Int) ∧ Int.toNat w < x.workers.length:=by
 unfold Tu at h
 rw [isN_w hm] at h
 simp only [Bool.and_eq_true,Cd] at h
 exact ⟨h.1,by omega,by omega,by omega⟩
theorem lAt_at {k : Int} (h : Int.toNat k < x.links.length) : x.links[Int.toNat k] = Dg x k:=(Xl h).symm
theorem Gg (h : Int.toNat w < x.workers.length) : x.workers[Int.toNat w] = K3 x w:=(Xl h).symm
theorem B3 {α : Type} {cnt : α → Nat} : ∀ {xs : List α} {i : Nat} (h : i < xs.length) (y : α),X0 cnt (xs.set i y) + cnt xs[i] = X0 cnt xs + cnt y
 | [],_,h,_=>by simp at h
 | x :: xs,0,_,y=>by simp [X0];omega
 | x :: xs,i + 1,h,y=>by
  have:=B3 (cnt:=cnt) (xs:=xs) (i:=i) (by simpa using h) y
  simp only [X0,List.set_cons_succ,List.length_cons,List.map_cons,List.sum_cons,List.getElem_cons_succ] at *;omega
theorem Am {α : Type} {cnt : α → Nat} {xs : List α} {i : Nat} (h : i < xs.length) : cnt xs[i] + 1 ≤ X0 cnt xs:=by
 have:=V3 (f:=cnt) h
 unfold X0;omega
end
def runBad (x : Cluster) (ok : Bool) (a b : Int) : Bool:=((!ok) || (decide (Qu x.graph a b < 0))) || (a == b)
def runCredit (x : Cluster) (ok : Bool) (a b : Int) : Cluster × Bool:=if runBad x ok a b = true then (x,false) else (Yh x (Qu x.graph a b) (Bd (Dg x (Qu x.graph a b))).1,(Bd (Dg x (Qu x.graph a b))).2)
section
variable {x : Cluster} {ok : Bool} {a b : Int}
end
theorem cnt_setLk {x : Cluster} {k : Int} {y : Link} {c : Nat} (h : Y5 y ≤ Y5 (Dg x k) + c) : Yb (Yh x k y) ≤ Yb x + c:=by
 unfold Yh Dg Yb at *
 by_cases hk : Int.toNat k < x.links.length
 ·have:=B3 (cnt:=Y5) hk y
  rw [Xl hk] at h
  simp only at *;omega
 ·rw [List.set_eq_of_length_le (by omega)];simp only;omega
theorem cnt_setW {x : Cluster} {k : Int} {y : Worker} {c : Nat} (h : Q7 y ≤ Q7 (K3 x k) + c) : Yb (Yn x k y) ≤ Yb x + c:=by
 unfold Yn K3 Yb at *
 by_cases hk : Int.toNat k < x.workers.length
 ·have:=B3 (cnt:=Q7) hk y
  rw [Xl hk] at h
  simp only at *;omega
 ·rw [List.set_eq_of_length_le (by omega)];simp only;omega
theorem cnt_pickMove (x : Cluster) (w : Int) : Yb (Qp x w).1 ≤ Yb x + 2:=by
 have hu:=B2 (K3 x w)
 unfold Qp;split
 ·split
  ·exact cnt_setW (c:=2) (by rw [cnt_kept];omega)
  ·split
   ·refine Nat.le_trans (cnt_setW (c:=1) ?_) (Nat.add_le_add_right (cnt_setLk (c:=1) cnt_send) 1)
    rw [cnt_sent];exact Nat.le_succ_of_le hu
   ·exact Nat.le_add_right _ _
 ·exact Nat.le_add_right _ _
def T2 (x : Cluster) (ok : Bool) (w : Int) : Bool:=ok && Yr w 0 (IntKind.i64.wrap (((x.workers.length : Nat) : Int) - 1))
def inBad (y : Worker) : Bool:=((decide (((y.staged.length : Nat) : Int) > 0)) || (decide (((y.queue.length : Nat) : Int) > 0))) || (((y.inputs.length : Nat) : Int) == 0)
def runInput (x : Cluster) (ok : Bool) (w : Int) : Cluster × Bool:=if T2 x ok w = true ∧ inBad (K3 x w) = false then
 (Yn x w ⟨[List.getD (K3 x w).inputs 0 default],(K3 x w).staged,(K3 x w).inputs.drop 1,(K3 x w).cells,(K3 x w).sums,(K3 x w).black,(K3 x w).caps,(K3 x w).dones⟩,true) else (x,false)
section
variable {x : Cluster} {ok : Bool} {w : Int}
theorem run_w (hcl : ok = true → Kf x = true) (hm : x.workers.length ≤ maxLen) (h : (!(ok && Yr w 0 (IntKind.i64.wrap (((x.workers.length : Nat) : Int) - 1)))) = false) : Kf x = true ∧ 0 ≤ w ∧ w < ((x.workers.length : Nat) : Int) ∧ Int.toNat w < x.workers.length:=by
 simp only [Bool.not_eq_false',Bool.and_eq_true] at h
 exact Ba hm (by unfold Tu;rw [hcl h.1,h.2];rfl)
variable (hw : Kf x = true ∧ 0 ≤ w ∧ w < ((x.workers.length : Nat) : Int) ∧ Int.toNat w < x.workers.length)
theorem wk_le (y : Worker) : y.queue.length ≤ Q7 y ∧ y.staged.length ≤ Q7 y ∧ y.inputs.length ≤ Q7 y:=by unfold Q7;omega
end
theorem clOk_in {x : Cluster} (h : Kf x = true) : Xb x.graph = true ∧ ∀ y ∈ x.workers,Xd x.graph y = true:=by
 have h1:=Hv h
 simp only [Hn,Bool.or_eq_false_iff,Bool.not_eq_false'] at h1
 simp only [Kf,Bool.and_eq_true] at h
 exact ⟨h1.1.1.1,fun y hy=>List.all_eq_true.1 h.1.1.1.2 y hy⟩
def Kt (y : Worker) (e n : Int) : Worker:=⟨y.queue,y.staged,y.inputs,y.cells,y.sums.set (Int.toNat e) (IntKind.i64.wrap (List.getD y.sums (Int.toNat e) default + n)),y.black,y.caps,y.dones⟩
def Bl (y : Worker) (e n : Int) : Bool:=Yr (IntKind.i64.wrap (List.getD y.sums (Int.toNat e) default + n)) (-1000000) 1000000
section
variable {x : Cluster} {p e n : Int}
theorem sum_x (h : Int.toNat p < x.workers.length) (he : Int.toNat e < (x.workers[Int.toNat p]'h).sums.length) : Yn x p (Kt (K3 x p) e n) = ⟨x.graph,x.workers.set (Int.toNat p) ⟨(x.workers[Int.toNat p]'h).queue,(x.workers[Int.toNat p]'h).staged,(x.workers[Int.toNat p]'h).inputs,(x.workers[Int.toNat p]'h).cells,(x.workers[Int.toNat p]'h).sums.set (Int.toNat e) (IntKind.i64.wrap ((x.workers[Int.toNat p]'h).sums[Int.toNat e] + n)),(x.workers[Int.toNat p]'h).black,(x.workers[Int.toNat p]'h).caps,(x.workers[Int.toNat p]'h).dones⟩,x.links,x.tokens,x.news⟩:=by
 rw [← Gg h];unfold Yn Kt;rw [Xl he]
theorem sum_k (h : Int.toNat p < x.workers.length) (he : Int.toNat e < (x.workers[Int.toNat p]'h).sums.length) : Bl (K3 x p) e n = Yr (List.getD ((x.workers[Int.toNat p]'h).sums.set (Int.toNat e) (IntKind.i64.wrap ((x.workers[Int.toNat p]'h).sums[Int.toNat e] + n))) (Int.toNat e) default) (-1000000) 1000000:=by
 rw [← Gg h];unfold Bl;rw [Xl he,Xl (by simpa using he)];simp
end
def takeY (y : Worker) (r : Record) : Worker:=⟨y.queue ++ [r],y.staged,y.inputs,y.cells,y.sums,y.black.set (Int.toNat r.stamp.epoch) true,y.caps,y.dones⟩
def runTake (x : Cluster) (ok : Bool) (a b : Int) : Cluster × Bool × Bool:=if runBad x ok a b = true then (x,false,ok) else
 if (Aa (Dg x (Qu x.graph a b))).2.2 = false then (x,false,ok) else
 (Yn (Yh x (Qu x.graph a b) (Aa (Dg x (Qu x.graph a b))).1) b (Kt (takeY (K3 x b) (Aa (Dg x (Qu x.graph a b))).2.1) (Aa (Dg x (Qu x.graph a b))).2.1.stamp.epoch (-1)),true,
  ok && Bl (takeY (K3 x b) (Aa (Dg x (Qu x.graph a b))).2.1) (Aa (Dg x (Qu x.graph a b))).2.1.stamp.epoch (-1))
section
variable {x : Cluster} {ok : Bool} {a b : Int}
theorem rec_ep {r : Record} (h : Y2 r = true) : 0 ≤ r.stamp.epoch ∧ r.stamp.epoch ≤ 3:=by
 simp only [Y2,U3,Bool.and_eq_true,Cd] at h
 omega
theorem wk_len4 {g : Graph} {y : Worker} (h : Xd g y = true) : y.sums.length = 4 ∧ y.black.length = 4 ∧ y.caps.length = 4:=by
 simp only [Xd,Bool.and_eq_true,beq_iff_eq] at h
 have h1:=h.1.1.1.1.2
 have h2:=h.1.1.1.2
 have h3:=h.1.1.2
 omega
end
def wkBad (y : Worker) : Bool:=(decide (((y.staged.length : Nat) : Int) > 0)) || (((y.queue.length : Nat) : Int) == 0)
def wkY (g : Graph) (y : Worker) : Worker:=⟨y.queue.drop 1,(Cp g y.cells (Ay y)).2.1,y.inputs,(Cp g y.cells (Ay y)).1,y.sums,y.black,if cappedM g (Ay y) = true then y.caps.set (Int.toNat (Ay y).stamp.epoch) true else y.caps,y.dones⟩
def runWork (x : Cluster) (ok : Bool) (w : Int) : Cluster × Bool:=if T2 x ok w = true ∧ wkBad (K3 x w) = false then (Yn x w (wkY x.graph (K3 x w)),true) else (x,false)
section
variable {x : Cluster} {ok : Bool} {w : Int}
variable (hw : Kf x = true ∧ 0 ≤ w ∧ w < ((x.workers.length : Nat) : Int) ∧ Int.toNat w < x.workers.length)
end
section
variable {x : Cluster} {a b : Int}
end
section
variable {x : Cluster} {p k : Int}
theorem mv_no (h : ((!(Tu x p)) || (((((List.getD x.workers (Int.toNat p) default).staged).length : Nat) : Int) == 0)) = true) : ¬ (Tu x p = true ∧ 0 < (K3 x p).staged.length):=by
 rintro ⟨a,b⟩
 unfold K3 at b
 rw [a] at h
 simp only [Bool.not_true,Bool.false_or,beq_iff_eq] at h
 omega
theorem mv_yes (h : ((!(Tu x p)) || (((((List.getD x.workers (Int.toNat p) default).staged).length : Nat) : Int) == 0)) = false) : Tu x p = true ∧ 0 < (K3 x p).staged.length:=by
 simp only [Bool.or_eq_false_iff,Bool.not_eq_false',beq_eq_false_iff_ne] at h
 unfold K3
 exact ⟨h.1,by omega⟩
theorem move_in (hw : Kf x = true ∧ 0 ≤ p ∧ p < ((x.workers.length : Nat) : Int) ∧ Int.toNat p < x.workers.length) : 0 ≤ Qu x.graph p (Ql k x.graph.workers) ∧ Int.toNat (Qu x.graph p (Ql k x.graph.workers)) < x.links.length:=by
 have hg:=cl_g (Hv hw.1)
 have hl:=cl_w (Hv hw.1)
 have ho:=owner_in (k:=k) hg.1
 have:=linkM_in (b:=Ql k x.graph.workers) hw.1 (a:=p) (by omega)
 exact ⟨by omega,this.2.2.2⟩
end
section
variable {x : Cluster} {p : Int} (hw : Kf x = true ∧ 0 ≤ p ∧ p < ((x.workers.length : Nat) : Int) ∧ Int.toNat p < x.workers.length) (h1 : Tu x p = true ∧ 0 < (K3 x p).staged.length)
include h1
theorem mv_k (he : (Ql ((Q9 (x.workers[Int.toNat p]'hw.2.2.2)).2.1).key x.graph.workers == p) = true) : Qp x p = (Yn x p (T4 (Q9 (x.workers[Int.toNat p]'hw.2.2.2)).1 (Q9 (x.workers[Int.toNat p]'hw.2.2.2)).2.1),true):=by
 have he:=eq_of_beq he
 rw [Gg hw.2.2.2] at he ⊢
 rw [Qp,if_pos h1,if_pos (show mvO x p = p from he)];rfl
variable (hl : Int.toNat (Qu x.graph p (Ql ((Q9 (x.workers[Int.toNat p]'hw.2.2.2)).2.1).key x.graph.workers)) < x.links.length)
theorem mv_f (he : (Ql ((Q9 (x.workers[Int.toNat p]'hw.2.2.2)).2.1).key x.graph.workers == p) = false) (hs : (Yf (x.links[Int.toNat (Qu x.graph p (Ql ((Q9 (x.workers[Int.toNat p]'hw.2.2.2)).2.1).key x.graph.workers))]'hl) (Q9 (x.workers[Int.toNat p]'hw.2.2.2)).2.1).2 = false) : Qp x p = (x,false):=by
 have he:=beq_eq_false_iff_ne.1 he
 rw [lAt_at hl] at hs
 simp only [Gg hw.2.2.2] at he hs
 rw [Qp,if_pos h1,if_neg (show ¬ mvO x p = p from he),if_neg (show ¬ (mvS x p).2 = true from fun hc=>by
  have : (mvS x p).2 = false:=hs
  rw [this] at hc;cases hc)]
theorem mv_t (he : (Ql ((Q9 (x.workers[Int.toNat p]'hw.2.2.2)).2.1).key x.graph.workers == p) = false) (hs : (Yf (x.links[Int.toNat (Qu x.graph p (Ql ((Q9 (x.workers[Int.toNat p]'hw.2.2.2)).2.1).key x.graph.workers))]'hl) (Q9 (x.workers[Int.toNat p]'hw.2.2.2)).2.1).2 = true) :
  Qp x p = (Yn (Yh x (Qu x.graph p (Ql ((Q9 (x.workers[Int.toNat p]'hw.2.2.2)).2.1).key x.graph.workers)) (Yf (x.links[Int.toNat (Qu x.graph p (Ql ((Q9 (x.workers[Int.toNat p]'hw.2.2.2)).2.1).key x.graph.workers))]'hl) (Q9 (x.workers[Int.toNat p]'hw.2.2.2)).2.1).1) p (Tr (Q9 (x.workers[Int.toNat p]'hw.2.2.2)).1 (Q9 (x.workers[Int.toNat p]'hw.2.2.2)).2.1.stamp.epoch),true):=by
 have he:=beq_eq_false_iff_ne.1 he
 rw [lAt_at hl] at hs ⊢
 simp only [Gg hw.2.2.2] at he hs ⊢
 rw [Qp,if_pos h1,if_neg (show ¬ mvO x p = p from he),if_pos (show (mvS x p).2 = true from hs)];rfl
end
def smR (x : Cluster) (p : Int) : Record:=List.getD (K3 x p).staged 0 default
def smK (x : Cluster) (p : Int) : Int:=Qu x.graph p (Ql (smR x p).key x.graph.workers)
def Cs (y : Worker) : Worker:=⟨y.queue,y.staged.drop 1,y.inputs,y.cells,y.sums,y.black,y.caps,y.dones⟩
def X9 (x : Cluster) (ok : Bool) (p : Int) : Cluster × Bool × Bool:=if T2 x ok p = true ∧ 0 < (K3 x p).staged.length then
 if Ql (smR x p).key x.graph.workers = p then (Yn x p (Cs (T4 (K3 x p) (smR x p))),true,ok) else
 if (Yf (Dg x (smK x p)) (smR x p)).2 = true then (Yn (Yh x (smK x p) (Yf (Dg x (smK x p)) (smR x p)).1) p (Cs (Kt (K3 x p) (smR x p).stamp.epoch 1)),true,ok && Bl (K3 x p) (smR x p).stamp.epoch 1) else (x,false,ok)
 else (x,false,ok)
section
variable {x : Cluster} {ok : Bool} {p : Int}
theorem move_no1 (h : ((!(ok && Yr p 0 (IntKind.i64.wrap (((x.workers.length : Nat) : Int) - 1)))) || (((((List.getD x.workers (Int.toNat p) default).staged).length : Nat) : Int) == 0)) = true) : X9 x ok p = (x,false,ok):=by
 unfold X9;rw [if_neg];rintro ⟨a,b⟩
 unfold T2 at a
 unfold K3 at b
 rw [a] at h
 simp only [Bool.not_true,Bool.false_or,beq_iff_eq] at h
 omega
theorem run_mv (h : ((!(ok && Yr p 0 (IntKind.i64.wrap (((x.workers.length : Nat) : Int) - 1)))) || (((((List.getD x.workers (Int.toNat p) default).staged).length : Nat) : Int) == 0)) = false) : (!(ok && Yr p 0 (IntKind.i64.wrap (((x.workers.length : Nat) : Int) - 1)))) = false ∧ 0 < (K3 x p).staged.length:=by
 simp only [Bool.or_eq_false_iff,beq_eq_false_iff_ne] at h
 unfold K3
 exact ⟨h.1,by omega⟩
variable (hw : Kf x = true ∧ 0 ≤ p ∧ p < ((x.workers.length : Nat) : Int) ∧ Int.toNat p < x.workers.length) (h0 : 0 < (x.workers[Int.toNat p]'hw.2.2.2).staged.length)
theorem Di (h0 : 0 < (x.workers[Int.toNat p]'hw.2.2.2).staged.length) : Y2 (x.workers[Int.toNat p]'hw.2.2.2).staged[0] = true:=by
 have h:=(clOk_in hw.1).2 _ (List.getElem_mem hw.2.2.2)
 simp only [Xd,Bool.and_eq_true] at h
 have h2:=h.1.1.1.1.1.1.1.1.2
 have:=List.all_eq_true.1 h2 _ (List.getElem_mem h0)
 simp only [Xo,Bool.and_eq_true] at this
 exact this.1
theorem move_ep (h0 : 0 < (x.workers[Int.toNat p]'hw.2.2.2).staged.length) : 0 ≤ (x.workers[Int.toNat p]'hw.2.2.2).staged[0].stamp.epoch ∧ Int.toNat (x.workers[Int.toNat p]'hw.2.2.2).staged[0].stamp.epoch < (x.workers[Int.toNat p]'hw.2.2.2).sums.length:=by
 have h4:=wk_len4 ((clOk_in hw.1).2 _ (List.getElem_mem hw.2.2.2))
 have he:=rec_ep (Di hw h0)
 omega
theorem sm_rec (h0 : 0 < (x.workers[Int.toNat p]'hw.2.2.2).staged.length) : smR x p = (x.workers[Int.toNat p]'hw.2.2.2).staged[0]:=by
 unfold smR;rw [← Gg hw.2.2.2];exact Xl h0
variable (h1 : ((!(ok && Yr p 0 (IntKind.i64.wrap (((x.workers.length : Nat) : Int) - 1)))) || (((((List.getD x.workers (Int.toNat p) default).staged).length : Nat) : Int) == 0)) = false)
include h1
theorem Bt : T2 x ok p = true ∧ 0 < (K3 x p).staged.length:=by
 have:=run_mv h1
 exact ⟨by unfold T2;simpa using this.1,this.2⟩
theorem move_k {X1 : Cluster} (he : (Ql ((x.workers[Int.toNat p]'hw.2.2.2).staged[0]'h0).key x.graph.workers != p) = false) (hX : X1 = Yn x p (Cs (T4 (x.workers[Int.toNat p]'hw.2.2.2) ((x.workers[Int.toNat p]'hw.2.2.2).staged[0]'h0)))) : X9 x ok p = (X1,true,ok):=by
 have hr:=sm_rec hw h0
 simp only [bne_eq_false_iff_eq] at he
 rw [hX,X9,if_pos (Bt h1),hr,if_pos he,← Gg hw.2.2.2]
variable (hl : Int.toNat (Qu x.graph p (Ql ((x.workers[Int.toNat p]'hw.2.2.2).staged[0]'h0).key x.graph.workers)) < x.links.length)
theorem move_f (he : (Ql ((x.workers[Int.toNat p]'hw.2.2.2).staged[0]'h0).key x.graph.workers != p) = true) (hs : (Yf (x.links[Int.toNat (Qu x.graph p (Ql ((x.workers[Int.toNat p]'hw.2.2.2).staged[0]'h0).key x.graph.workers))]'hl) ((x.workers[Int.toNat p]'hw.2.2.2).staged[0]'h0)).2 = false) : X9 x ok p = (x,false,ok):=by
 have hr:=sm_rec hw h0
 have he:=bne_iff_ne.1 he
 rw [lAt_at hl] at hs
 rw [X9,if_pos (Bt h1),smK,hr,if_neg he,if_neg (by rw [hs];simp)]
theorem move_t {X1 : Cluster} {okk : Bool} (he : (Ql ((x.workers[Int.toNat p]'hw.2.2.2).staged[0]'h0).key x.graph.workers != p) = true) (hs : (Yf (x.links[Int.toNat (Qu x.graph p (Ql ((x.workers[Int.toNat p]'hw.2.2.2).staged[0]'h0).key x.graph.workers))]'hl) ((x.workers[Int.toNat p]'hw.2.2.2).staged[0]'h0)).2 = true)
  (hX : X1 = Yn (Yh x (Qu x.graph p (Ql ((x.workers[Int.toNat p]'hw.2.2.2).staged[0]'h0).key x.graph.workers)) (Yf (x.links[Int.toNat (Qu x.graph p (Ql ((x.workers[Int.toNat p]'hw.2.2.2).staged[0]'h0).key x.graph.workers))]'hl) ((x.workers[Int.toNat p]'hw.2.2.2).staged[0]'h0)).1) p (Cs (Kt (x.workers[Int.toNat p]'hw.2.2.2) ((x.workers[Int.toNat p]'hw.2.2.2).staged[0]'h0).stamp.epoch 1)))
  (hk : okk = (ok && Bl (x.workers[Int.toNat p]'hw.2.2.2) ((x.workers[Int.toNat p]'hw.2.2.2).staged[0]'h0).stamp.epoch 1)) : X9 x ok p = (X1,true,okk):=by
 have hr:=sm_rec hw h0
 have he:=bne_iff_ne.1 he
 rw [lAt_at hl] at hs hX
 rw [hX,hk,X9,if_pos (Bt h1),smK,hr,if_neg he,if_pos hs,← Gg hw.2.2.2]
end
section
variable {x : Cluster} {p : Int}
theorem unst_pos {y : Worker} (h : 0 < y.staged.length) : Q9 y = (Cs y,List.getD y.staged 0 default,true):=by
 rw [Q9,if_neg (by omega)];rfl
theorem sent_sum {g : Graph} {y : Worker} {r : Record} (h : Xd g y = true) (hr : Y2 r = true) : Tr (Cs y) r.stamp.epoch = Cs (Kt y r.stamp.epoch 1):=by
 have h4:=wk_len4 h
 have he:=rec_ep hr
 rw [Tr,if_pos (by simp only [Cs];omega)]
 rfl
theorem Dm (hm : x.workers.length ≤ maxLen) : (X9 x (Kf x) p).1 = (Qp x p).1 ∧ (X9 x (Kf x) p).2.1 = (Qp x p).2:=by
 unfold X9 Qp
 by_cases h : Tu x p = true ∧ 0 < (K3 x p).staged.length
 ·have hr : T2 x (Kf x) p = true ∧ 0 < (K3 x p).staged.length:=h
  have hw:=Ba hm h.1
  have hu:=unst_pos h.2
  have e1 : mvR x p = smR x p:=by unfold mvR smR;rw [hu]
  have e2 : mvO x p = Ql (smR x p).key x.graph.workers:=by unfold mvO;rw [e1]
  have e3 : mvS x p = Yf (Dg x (smK x p)) (smR x p):=by unfold mvS smK;rw [e1,e2]
  have e4 : Qu x.graph p (mvO x p) = smK x p:=by unfold smK;rw [e2]
  rw [if_pos hr,if_pos h,e4,e2,e3,e1,hu]
  have hwk : Xd x.graph (K3 x p) = true:=by rw [← Gg hw.2.2.2];exact (clOk_in hw.1).2 _ (List.getElem_mem _)
  have hrec : Y2 (smR x p) = true:=by
   have h0 : 0 < (x.workers[Int.toNat p]'hw.2.2.2).staged.length:=by rw [Gg hw.2.2.2];exact h.2
   rw [sm_rec hw h0];exact Di hw h0
  by_cases ho : Ql (smR x p).key x.graph.workers = p
  ·rw [if_pos ho,if_pos ho];exact ⟨rfl,rfl⟩
  ·rw [if_neg ho,if_neg ho]
   by_cases hs : (Yf (Dg x (smK x p)) (smR x p)).2 = true
   ·rw [if_pos hs,if_pos hs,sent_sum hwk hrec];exact ⟨rfl,rfl⟩
   ·rw [if_neg hs,if_neg hs];exact ⟨rfl,rfl⟩
 ·rw [if_neg (show ¬ (T2 x (Kf x) p = true ∧ 0 < (K3 x p).staged.length) from h),if_neg h];exact ⟨rfl,rfl⟩
theorem pick_move1 (hm : x.workers.length ≤ maxLen) : (X9 x (Kf x) p).1 = (Qp x p).1:=(Dm hm).1
theorem pick_move2 (hm : x.workers.length ≤ maxLen) : (X9 x (Kf x) p).2.1 = (Qp x p).2:=(Dm hm).2
end
end Go.Proofs.YtjpoipdddpmeiaaGreat
