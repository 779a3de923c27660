/- The plain functions on lists and numbers that the contracts name, and what holds of them; no condition. -/
import Derived.Test.YtaangeddnfnhdaaGreatLib2
namespace Go.Proofs.YtaangeddnfnhdaaGreat
open Go Go.Proofs.YtaangeddnfnhdaaGreat.X
def X1 {α : Type} (f : α → Nat) (xs : List α) : Nat:=xs.length + (xs.map f).sum
structure Stamp where
 epoch : Int
 turn : Int
 deriving DecidableEq,Inhabited
instance : Enc Stamp:=⟨fun x=>[.int .i64 x.epoch,.int .i64 x.turn],2,fun _=>rfl,fun _=>rfl,by decide⟩
structure Record where
 op : Int
 stamp : Stamp
 key : Int
 val : Int
 deriving DecidableEq,Inhabited
instance : Enc Record:=⟨fun x=>[.int .i64 x.op,.int .i64 x.stamp.epoch,.int .i64 x.stamp.turn,.int .i64 x.key,.int .i64 x.val],5,fun _=>rfl,fun _=>rfl,by decide⟩
structure Cell where
 op : Int
 epoch : Int
 key : Int
 val : Int
 deriving DecidableEq,Inhabited
instance : Enc Cell:=⟨fun x=>[.int .i64 x.op,.int .i64 x.epoch,.int .i64 x.key,.int .i64 x.val],4,fun _=>rfl,fun _=>rfl,by decide⟩
structure Done where
 epoch : Int
 capped : Bool
 deriving DecidableEq,Inhabited
instance : Enc Done:=⟨fun x=>[.int .i64 x.epoch,.bool x.capped],2,fun _=>rfl,fun _=>rfl,by decide⟩
structure Token where
 going : Bool
 place : Int
 sum : Int
 black : Bool
 capped : Bool
 deriving DecidableEq,Inhabited
instance : Enc Token:=⟨fun x=>[.bool x.going,.int .i64 x.place,.int .i64 x.sum,.bool x.black,.bool x.capped],5,fun _=>rfl,fun _=>rfl,by decide⟩
structure News where
 dest : Int
 epoch : Int
 capped : Bool
 deriving DecidableEq,Inhabited
instance : Enc News:=⟨fun x=>[.int .i64 x.dest,.int .i64 x.epoch,.bool x.capped],3,fun _=>rfl,fun _=>rfl,by decide⟩
structure Count where
 stamp : Stamp
 n : Int
 deriving DecidableEq,Inhabited
instance : Enc Count:=⟨fun x=>[.int .i64 x.stamp.epoch,.int .i64 x.stamp.turn,.int .i64 x.n],3,fun _=>rfl,fun _=>rfl,by decide⟩
structure Node where
 kind : Int
 a : Int
 b : Int
 outs : List Int
 deriving DecidableEq,Inhabited
instance : Dat Node:=⟨4,fun w lo hi cs x=>∃ o1,cs = [.int .i64 x.kind,.int .i64 x.a,.int .i64 x.b,o1] ∧ RdD w lo hi o1 x.outs,by decide,fun h=>by obtain ⟨o1,rfl,h1⟩:=h;exact rfl,fun h=>by obtain ⟨o1,rfl,h1⟩:=h;exact Qk rfl (Qk rfl (Qk rfl (Qk (RdD.one h1) (rfl)))),fun h s=>by obtain ⟨o1,rfl,h1⟩:=h;exact ⟨o1,rfl,RdD.same h1 s⟩,fun h a b=>by obtain ⟨o1,rfl,h1⟩:=h;exact ⟨o1,rfl,RdD.widen h1 a b⟩,fun h=>by obtain ⟨o1,rfl,h1⟩:=h;exact ⟨o1,rfl,RdD.any h1⟩⟩
theorem Node.op {w : World} {lo hi : Nat} {cs : List Value} {x : Node} (h : Dat.R w lo hi cs x) : ∃ o1,cs = [.int .i64 x.kind,.int .i64 x.a,.int .i64 x.b,o1] ∧ RdD w lo hi o1 x.outs:=h
theorem Node.mkR {w : World} {lo hi : Nat} {o1 : Value} (x : Node) (h1 : RdD w lo hi o1 x.outs) : Dat.R w lo hi [.int .i64 x.kind,.int .i64 x.a,.int .i64 x.b,o1] x:=⟨o1,rfl,h1⟩
def Xx (x : Node) : Nat:=x.outs.length
structure Graph where
 nodes : List Node
 workers : Int
 cap : Int
 deriving DecidableEq,Inhabited
instance : Dat Graph:=⟨3,fun w lo hi cs x=>∃ o1,cs = [o1,.int .i64 x.workers,.int .i64 x.cap] ∧ RdD w lo hi o1 x.nodes,by decide,fun h=>by obtain ⟨o1,rfl,h1⟩:=h;exact rfl,fun h=>by obtain ⟨o1,rfl,h1⟩:=h;exact Qk (RdD.one h1) (Qk rfl (Qk rfl (rfl))),fun h s=>by obtain ⟨o1,rfl,h1⟩:=h;exact ⟨o1,rfl,RdD.same h1 s⟩,fun h a b=>by obtain ⟨o1,rfl,h1⟩:=h;exact ⟨o1,rfl,RdD.widen h1 a b⟩,fun h=>by obtain ⟨o1,rfl,h1⟩:=h;exact ⟨o1,rfl,RdD.any h1⟩⟩
theorem Graph.op {w : World} {lo hi : Nat} {cs : List Value} {x : Graph} (h : Dat.R w lo hi cs x) : ∃ o1,cs = [o1,.int .i64 x.workers,.int .i64 x.cap] ∧ RdD w lo hi o1 x.nodes:=h
theorem Graph.mkR {w : World} {lo hi : Nat} {o1 : Value} (x : Graph) (h1 : RdD w lo hi o1 x.nodes) : Dat.R w lo hi [o1,.int .i64 x.workers,.int .i64 x.cap] x:=⟨o1,rfl,h1⟩
def Xa (x : Graph) : Nat:=X1 Xx x.nodes
structure Worker where
 queue : List Record
 staged : List Record
 inputs : List Record
 cells : List Cell
 sums : List Int
 black : List Bool
 caps : List Bool
 dones : List Done
 deriving DecidableEq,Inhabited
instance : Dat Worker:=⟨8,fun w lo hi cs x=>∃ o1 o2 o3 o4 o5 o6 o7 o8,cs = [o1,o2,o3,o4,o5,o6,o7,o8] ∧ RdD w lo hi o1 x.queue ∧ RdD w lo hi o2 x.staged ∧ RdD w lo hi o3 x.inputs ∧ RdD w lo hi o4 x.cells ∧ RdD w lo hi o5 x.sums ∧ RdD w lo hi o6 x.black ∧ RdD w lo hi o7 x.caps ∧ RdD w lo hi o8 x.dones,by decide,fun h=>by obtain ⟨o1,o2,o3,o4,o5,o6,o7,o8,rfl,h1,h2,h3,h4,h5,h6,h7,h8⟩:=h;exact rfl,fun h=>by obtain ⟨o1,o2,o3,o4,o5,o6,o7,o8,rfl,h1,h2,h3,h4,h5,h6,h7,h8⟩:=h;exact Qk (RdD.one h1) (Qk (RdD.one h2) (Qk (RdD.one h3) (Qk (RdD.one h4) (Qk (RdD.one h5) (Qk (RdD.one h6) (Qk (RdD.one h7) (Qk (RdD.one h8) (rfl)))))))),fun h s=>by obtain ⟨o1,o2,o3,o4,o5,o6,o7,o8,rfl,h1,h2,h3,h4,h5,h6,h7,h8⟩:=h;exact ⟨o1,o2,o3,o4,o5,o6,o7,o8,rfl,RdD.same h1 s,RdD.same h2 s,RdD.same h3 s,RdD.same h4 s,RdD.same h5 s,RdD.same h6 s,RdD.same h7 s,RdD.same h8 s⟩,fun h a b=>by obtain ⟨o1,o2,o3,o4,o5,o6,o7,o8,rfl,h1,h2,h3,h4,h5,h6,h7,h8⟩:=h;exact ⟨o1,o2,o3,o4,o5,o6,o7,o8,rfl,RdD.widen h1 a b,RdD.widen h2 a b,RdD.widen h3 a b,RdD.widen h4 a b,RdD.widen h5 a b,RdD.widen h6 a b,RdD.widen h7 a b,RdD.widen h8 a b⟩,fun h=>by obtain ⟨o1,o2,o3,o4,o5,o6,o7,o8,rfl,h1,h2,h3,h4,h5,h6,h7,h8⟩:=h;exact ⟨o1,o2,o3,o4,o5,o6,o7,o8,rfl,RdD.any h1,RdD.any h2,RdD.any h3,RdD.any h4,RdD.any h5,RdD.any h6,RdD.any h7,RdD.any h8⟩⟩
theorem Worker.op {w : World} {lo hi : Nat} {cs : List Value} {x : Worker} (h : Dat.R w lo hi cs x) : ∃ o1 o2 o3 o4 o5 o6 o7 o8,cs = [o1,o2,o3,o4,o5,o6,o7,o8] ∧ RdD w lo hi o1 x.queue ∧ RdD w lo hi o2 x.staged ∧ RdD w lo hi o3 x.inputs ∧ RdD w lo hi o4 x.cells ∧ RdD w lo hi o5 x.sums ∧ RdD w lo hi o6 x.black ∧ RdD w lo hi o7 x.caps ∧ RdD w lo hi o8 x.dones:=h
theorem Worker.mkR {w : World} {lo hi : Nat} {o1 o2 o3 o4 o5 o6 o7 o8 : Value} (x : Worker) (h1 : RdD w lo hi o1 x.queue) (h2 : RdD w lo hi o2 x.staged) (h3 : RdD w lo hi o3 x.inputs) (h4 : RdD w lo hi o4 x.cells) (h5 : RdD w lo hi o5 x.sums) (h6 : RdD w lo hi o6 x.black) (h7 : RdD w lo hi o7 x.caps) (h8 : RdD w lo hi o8 x.dones) : Dat.R w lo hi [o1,o2,o3,o4,o5,o6,o7,o8] x:=⟨o1,o2,o3,o4,o5,o6,o7,o8,rfl,h1,h2,h3,h4,h5,h6,h7,h8⟩
def Yd (x : Worker) : Nat:=x.queue.length + x.staged.length + x.inputs.length + x.cells.length + x.sums.length + x.black.length + x.caps.length + x.dones.length
structure Link where
 cap : Int
 queue : List Record
 credits : Int
 back : Int
 sent : Int
 got : Int
 deriving DecidableEq,Inhabited
instance : Dat Link:=⟨6,fun w lo hi cs x=>∃ o1,cs = [.int .i64 x.cap,o1,.int .i64 x.credits,.int .i64 x.back,.int .i64 x.sent,.int .i64 x.got] ∧ RdD w lo hi o1 x.queue,by decide,fun h=>by obtain ⟨o1,rfl,h1⟩:=h;exact rfl,fun h=>by obtain ⟨o1,rfl,h1⟩:=h;exact Qk rfl (Qk (RdD.one h1) (Qk rfl (Qk rfl (Qk rfl (Qk rfl (rfl)))))),fun h s=>by obtain ⟨o1,rfl,h1⟩:=h;exact ⟨o1,rfl,RdD.same h1 s⟩,fun h a b=>by obtain ⟨o1,rfl,h1⟩:=h;exact ⟨o1,rfl,RdD.widen h1 a b⟩,fun h=>by obtain ⟨o1,rfl,h1⟩:=h;exact ⟨o1,rfl,RdD.any h1⟩⟩
theorem Link.op {w : World} {lo hi : Nat} {cs : List Value} {x : Link} (h : Dat.R w lo hi cs x) : ∃ o1,cs = [.int .i64 x.cap,o1,.int .i64 x.credits,.int .i64 x.back,.int .i64 x.sent,.int .i64 x.got] ∧ RdD w lo hi o1 x.queue:=h
theorem Link.mkR {w : World} {lo hi : Nat} {o1 : Value} (x : Link) (h1 : RdD w lo hi o1 x.queue) : Dat.R w lo hi [.int .i64 x.cap,o1,.int .i64 x.credits,.int .i64 x.back,.int .i64 x.sent,.int .i64 x.got] x:=⟨o1,rfl,h1⟩
def Xl (x : Link) : Nat:=x.queue.length
structure Cluster where
 graph : Graph
 workers : List Worker
 links : List Link
 tokens : List Token
 news : List News
 deriving DecidableEq,Inhabited
instance : Dat Cluster:=⟨7,fun w lo hi cs x=>∃ o1 o2 o3 o4 o5,cs = [o1,.int .i64 x.graph.workers,.int .i64 x.graph.cap,o2,o3,o4,o5] ∧ RdD w lo hi o1 x.graph.nodes ∧ RdD w lo hi o2 x.workers ∧ RdD w lo hi o3 x.links ∧ RdD w lo hi o4 x.tokens ∧ RdD w lo hi o5 x.news,by decide,fun h=>by obtain ⟨o1,o2,o3,o4,o5,rfl,h1,h2,h3,h4,h5⟩:=h;exact rfl,fun h=>by obtain ⟨o1,o2,o3,o4,o5,rfl,h1,h2,h3,h4,h5⟩:=h;exact Qk (RdD.one h1) (Qk rfl (Qk rfl (Qk (RdD.one h2) (Qk (RdD.one h3) (Qk (RdD.one h4) (Qk (RdD.one h5) (rfl))))))),fun h s=>by obtain ⟨o1,o2,o3,o4,o5,rfl,h1,h2,h3,h4,h5⟩:=h;exact ⟨o1,o2,o3,o4,o5,rfl,RdD.same h1 s,RdD.same h2 s,RdD.same h3 s,RdD.same h4 s,RdD.same h5 s⟩,fun h a b=>by obtain ⟨o1,o2,o3,o4,o5,rfl,h1,h2,h3,h4,h5⟩:=h;exact ⟨o1,o2,o3,o4,o5,rfl,RdD.widen h1 a b,RdD.widen h2 a b,RdD.widen h3 a b,RdD.widen h4 a b,RdD.widen h5 a b⟩,fun h=>by obtain ⟨o1,o2,o3,o4,o5,rfl,h1,h2,h3,h4,h5⟩:=h;exact ⟨o1,o2,o3,o4,o5,rfl,RdD.any h1,RdD.any h2,RdD.any h3,RdD.any h4,RdD.any h5⟩⟩
theorem Cluster.op {w : World} {lo hi : Nat} {cs : List Value} {x : Cluster} (h : Dat.R w lo hi cs x) : ∃ o1 o2 o3 o4 o5,cs = [o1,.int .i64 x.graph.workers,.int .i64 x.graph.cap,o2,o3,o4,o5] ∧ RdD w lo hi o1 x.graph.nodes ∧ RdD w lo hi o2 x.workers ∧ RdD w lo hi o3 x.links ∧ RdD w lo hi o4 x.tokens ∧ RdD w lo hi o5 x.news:=h
theorem Cluster.mkR {w : World} {lo hi : Nat} {o1 o2 o3 o4 o5 : Value} (x : Cluster) (h1 : RdD w lo hi o1 x.graph.nodes) (h2 : RdD w lo hi o2 x.workers) (h3 : RdD w lo hi o3 x.links) (h4 : RdD w lo hi o4 x.tokens) (h5 : RdD w lo hi o5 x.news) : Dat.R w lo hi [o1,.int .i64 x.graph.workers,.int .i64 x.graph.cap,o2,o3,o4,o5] x:=⟨o1,o2,o3,o4,o5,rfl,h1,h2,h3,h4,h5⟩
def Yg (x : Cluster) : Nat:=Xa x.graph + X1 Yd x.workers + X1 Xl x.links + x.tokens.length + x.news.length
instance : Own1 Node:={ (inferInstance : Dat Node) with
 O:=fun w lo hi cs x=>∃ o1,cs = [.int .i64 x.kind,.int .i64 x.a,.int .i64 x.b,o1] ∧ SepL [o1] ∧ Own w lo hi 1 o1 (List.flatMap (Enc.enc (α:=Int)) x.outs)
 rd:=fun ⟨o1,e,s,h1⟩=>⟨o1,e,h1.rdD⟩
 kp:=fun ⟨o1,e,s,h1⟩ k=>⟨o1,e,s,h1.kp (k.sub (Ks (by rw [e];simp)))⟩
 wide:=fun ⟨o1,e,s,h1⟩ a b=>⟨o1,e,s,h1.widen a b⟩
 inn:=by rintro w lo hi cs x ⟨o1,rfl,s,h1⟩;exact FpA.all ⟨(fun _ h=>absurd h List.not_mem_nil),(fun _ h=>absurd h List.not_mem_nil),(fun _ h=>absurd h List.not_mem_nil),h1.innb,trivial⟩
 nd:=by rintro w lo hi cs x ⟨o1,rfl,s,h1⟩;exact (show (Vc [o1]).Nodup from SepL.nd s) }
theorem Node.opO {w : World} {lo hi : Nat} {cs : List Value} {x : Node} (h : Own1.O w lo hi cs x) : ∃ o1,cs = [.int .i64 x.kind,.int .i64 x.a,.int .i64 x.b,o1] ∧ SepL [o1] ∧ Own w lo hi 1 o1 (List.flatMap (Enc.enc (α:=Int)) x.outs):=h
theorem Node.mkO {w : World} {lo hi : Nat} {o1 : Value} (x : Node) (s : SepL [o1]) (h1 : Own w lo hi 1 o1 (List.flatMap (Enc.enc (α:=Int)) x.outs)) : Own1.O w lo hi [.int .i64 x.kind,.int .i64 x.a,.int .i64 x.b,o1] x:=⟨o1,rfl,s,h1⟩
instance : Own1 Worker:={ (inferInstance : Dat Worker) with
 O:=fun w lo hi cs x=>∃ o1 o2 o3 o4 o5 o6 o7 o8,cs = [o1,o2,o3,o4,o5,o6,o7,o8] ∧ SepL [o1,o2,o3,o4,o5,o6,o7,o8] ∧ Own w lo hi 5 o1 (List.flatMap (Enc.enc (α:=Record)) x.queue) ∧ Own w lo hi 5 o2 (List.flatMap (Enc.enc (α:=Record)) x.staged) ∧ Own w lo hi 5 o3 (List.flatMap (Enc.enc (α:=Record)) x.inputs) ∧ Own w lo hi 4 o4 (List.flatMap (Enc.enc (α:=Cell)) x.cells) ∧ Own w lo hi 1 o5 (List.flatMap (Enc.enc (α:=Int)) x.sums) ∧ Own w lo hi 1 o6 (List.flatMap (Enc.enc (α:=Bool)) x.black) ∧ Own w lo hi 1 o7 (List.flatMap (Enc.enc (α:=Bool)) x.caps) ∧ Own w lo hi 2 o8 (List.flatMap (Enc.enc (α:=Done)) x.dones)
 rd:=fun ⟨o1,o2,o3,o4,o5,o6,o7,o8,e,s,h1,h2,h3,h4,h5,h6,h7,h8⟩=>⟨o1,o2,o3,o4,o5,o6,o7,o8,e,h1.rdD,h2.rdD,h3.rdD,h4.rdD,h5.rdD,h6.rdD,h7.rdD,h8.rdD⟩
 kp:=fun ⟨o1,o2,o3,o4,o5,o6,o7,o8,e,s,h1,h2,h3,h4,h5,h6,h7,h8⟩ k=>⟨o1,o2,o3,o4,o5,o6,o7,o8,e,s,h1.kp (k.sub (Ks (by rw [e];simp))),h2.kp (k.sub (Ks (by rw [e];simp))),h3.kp (k.sub (Ks (by rw [e];simp))),h4.kp (k.sub (Ks (by rw [e];simp))),h5.kp (k.sub (Ks (by rw [e];simp))),h6.kp (k.sub (Ks (by rw [e];simp))),h7.kp (k.sub (Ks (by rw [e];simp))),h8.kp (k.sub (Ks (by rw [e];simp)))⟩
 wide:=fun ⟨o1,o2,o3,o4,o5,o6,o7,o8,e,s,h1,h2,h3,h4,h5,h6,h7,h8⟩ a b=>⟨o1,o2,o3,o4,o5,o6,o7,o8,e,s,h1.widen a b,h2.widen a b,h3.widen a b,h4.widen a b,h5.widen a b,h6.widen a b,h7.widen a b,h8.widen a b⟩
 inn:=by rintro w lo hi cs x ⟨o1,o2,o3,o4,o5,o6,o7,o8,rfl,s,h1,h2,h3,h4,h5,h6,h7,h8⟩;exact FpA.all ⟨h1.innb,h2.innb,h3.innb,h4.innb,h5.innb,h6.innb,h7.innb,h8.innb,trivial⟩
 nd:=by rintro w lo hi cs x ⟨o1,o2,o3,o4,o5,o6,o7,o8,rfl,s,h1,h2,h3,h4,h5,h6,h7,h8⟩;exact (show (Vc [o1,o2,o3,o4,o5,o6,o7,o8]).Nodup from SepL.nd s) }
theorem Worker.opO {w : World} {lo hi : Nat} {cs : List Value} {x : Worker} (h : Own1.O w lo hi cs x) : ∃ o1 o2 o3 o4 o5 o6 o7 o8,cs = [o1,o2,o3,o4,o5,o6,o7,o8] ∧ SepL [o1,o2,o3,o4,o5,o6,o7,o8] ∧ Own w lo hi 5 o1 (List.flatMap (Enc.enc (α:=Record)) x.queue) ∧ Own w lo hi 5 o2 (List.flatMap (Enc.enc (α:=Record)) x.staged) ∧ Own w lo hi 5 o3 (List.flatMap (Enc.enc (α:=Record)) x.inputs) ∧ Own w lo hi 4 o4 (List.flatMap (Enc.enc (α:=Cell)) x.cells) ∧ Own w lo hi 1 o5 (List.flatMap (Enc.enc (α:=Int)) x.sums) ∧ Own w lo hi 1 o6 (List.flatMap (Enc.enc (α:=Bool)) x.black) ∧ Own w lo hi 1 o7 (List.flatMap (Enc.enc (α:=Bool)) x.caps) ∧ Own w lo hi 2 o8 (List.flatMap (Enc.enc (α:=Done)) x.dones):=h
theorem Worker.mkO {w : World} {lo hi : Nat} {o1 o2 o3 o4 o5 o6 o7 o8 : Value} (x : Worker) (s : SepL [o1,o2,o3,o4,o5,o6,o7,o8]) (h1 : Own w lo hi 5 o1 (List.flatMap (Enc.enc (α:=Record)) x.queue)) (h2 : Own w lo hi 5 o2 (List.flatMap (Enc.enc (α:=Record)) x.staged)) (h3 : Own w lo hi 5 o3 (List.flatMap (Enc.enc (α:=Record)) x.inputs)) (h4 : Own w lo hi 4 o4 (List.flatMap (Enc.enc (α:=Cell)) x.cells)) (h5 : Own w lo hi 1 o5 (List.flatMap (Enc.enc (α:=Int)) x.sums)) (h6 : Own w lo hi 1 o6 (List.flatMap (Enc.enc (α:=Bool)) x.black)) (h7 : Own w lo hi 1 o7 (List.flatMap (Enc.enc (α:=Bool)) x.caps)) (h8 : Own w lo hi 2 o8 (List.flatMap (Enc.enc (α:=Done)) x.dones)) : Own1.O w lo hi [o1,o2,o3,o4,o5,o6,o7,o8] x:=⟨o1,o2,o3,o4,o5,o6,o7,o8,rfl,s,h1,h2,h3,h4,h5,h6,h7,h8⟩
instance : Own1 Link:={ (inferInstance : Dat Link) with
 O:=fun w lo hi cs x=>∃ o1,cs = [.int .i64 x.cap,o1,.int .i64 x.credits,.int .i64 x.back,.int .i64 x.sent,.int .i64 x.got] ∧ SepL [o1] ∧ Own w lo hi 5 o1 (List.flatMap (Enc.enc (α:=Record)) x.queue)
 rd:=fun ⟨o1,e,s,h1⟩=>⟨o1,e,h1.rdD⟩
 kp:=fun ⟨o1,e,s,h1⟩ k=>⟨o1,e,s,h1.kp (k.sub (Ks (by rw [e];simp)))⟩
 wide:=fun ⟨o1,e,s,h1⟩ a b=>⟨o1,e,s,h1.widen a b⟩
 inn:=by rintro w lo hi cs x ⟨o1,rfl,s,h1⟩;exact FpA.all ⟨(fun _ h=>absurd h List.not_mem_nil),h1.innb,(fun _ h=>absurd h List.not_mem_nil),(fun _ h=>absurd h List.not_mem_nil),(fun _ h=>absurd h List.not_mem_nil),(fun _ h=>absurd h List.not_mem_nil),trivial⟩
 nd:=by rintro w lo hi cs x ⟨o1,rfl,s,h1⟩;exact (show (Vc [o1]).Nodup from SepL.nd s) }
theorem Link.opO {w : World} {lo hi : Nat} {cs : List Value} {x : Link} (h : Own1.O w lo hi cs x) : ∃ o1,cs = [.int .i64 x.cap,o1,.int .i64 x.credits,.int .i64 x.back,.int .i64 x.sent,.int .i64 x.got] ∧ SepL [o1] ∧ Own w lo hi 5 o1 (List.flatMap (Enc.enc (α:=Record)) x.queue):=h
theorem Link.mkO {w : World} {lo hi : Nat} {o1 : Value} (x : Link) (s : SepL [o1]) (h1 : Own w lo hi 5 o1 (List.flatMap (Enc.enc (α:=Record)) x.queue)) : Own1.O w lo hi [.int .i64 x.cap,o1,.int .i64 x.credits,.int .i64 x.back,.int .i64 x.sent,.int .i64 x.got] x:=⟨o1,rfl,s,h1⟩
def okStamp (x : Stamp) : Prop:=(rg x.epoch) ∧ (rg x.turn)
def Td (x : Record) : Prop:=(rg x.op) ∧ (okStamp x.stamp) ∧ (rg x.key) ∧ (rg x.val)
def okCell (x : Cell) : Prop:=(rg x.op) ∧ (rg x.epoch) ∧ (rg x.key) ∧ (rg x.val)
def okDone (x : Done) : Prop:=(rg x.epoch) ∧ (True)
def okToken (x : Token) : Prop:=(True) ∧ (rg x.place) ∧ (rg x.sum) ∧ (True) ∧ (True)
def okNews (x : News) : Prop:=(rg x.dest) ∧ (rg x.epoch) ∧ (True)
def okCount (x : Count) : Prop:=(okStamp x.stamp) ∧ (rg x.n)
def okNode (x : Node) : Prop:=(rg x.kind) ∧ (rg x.a) ∧ (rg x.b) ∧ (∀ y ∈ x.outs,rg y)
def okGraph (x : Graph) : Prop:=(∀ y ∈ x.nodes,okNode y) ∧ (rg x.workers) ∧ (rg x.cap)
def Da (x : Worker) : Prop:=(∀ y ∈ x.queue,Td y) ∧ (∀ y ∈ x.staged,Td y) ∧ (∀ y ∈ x.inputs,Td y) ∧ (∀ y ∈ x.cells,okCell y) ∧ (∀ y ∈ x.sums,rg y) ∧ (∀ y ∈ x.black,True) ∧ (∀ y ∈ x.caps,True) ∧ (∀ y ∈ x.dones,okDone y)
def okLink (x : Link) : Prop:=(rg x.cap) ∧ (∀ y ∈ x.queue,Td y) ∧ (rg x.credits) ∧ (rg x.back) ∧ (rg x.sent) ∧ (rg x.got)
def D5 (x : Cluster) : Prop:=(okGraph x.graph) ∧ (∀ y ∈ x.workers,Da y) ∧ (∀ y ∈ x.links,okLink y) ∧ (∀ y ∈ x.tokens,okToken y) ∧ (∀ y ∈ x.news,okNews y)
section
variable {w w' : World} {lo hi lo' hi' : Nat} {o1 o2 o3 o4 o5 : Value} {x : Cluster} {y : Option Nat}
def OwC (w : World) (lo hi : Nat) (o1 o2 o3 o4 o5 : Value) (x : Cluster) : Prop :=
 ∃ f1 f2 f3,OwF w lo hi o1 x.graph.nodes f1 ∧ OwF w lo hi o2 x.workers f2 ∧ OwF w lo hi o3 x.links f3 ∧ Own w lo hi 5 o4 (List.flatMap (Enc.enc (α:=Token)) x.tokens) ∧ Own w lo hi 3 o5 (List.flatMap (Enc.enc (α:=News)) x.news) ∧ DjL [f1,f2,f3,Kr o4,Kr o5]
theorem OwC.same (h : OwC w lo hi o1 o2 o3 o4 o5 x) (s : Same w w' lo hi) : OwC w' lo hi o1 o2 o3 o4 o5 x:=by
 obtain ⟨f1,f2,f3,h1,h2,h3,h4,h5,sp⟩:=h
 exact ⟨f1,f2,f3,h1.same s,h2.same s,h3.same s,h4.kp ⟨s.size,fun b hb hl=>s.block b (h4.in2 b hb).1 (h4.in2 b hb).2 hl⟩,h5.kp ⟨s.size,fun b hb hl=>s.block b (h5.in2 b hb).1 (h5.in2 b hb).2 hl⟩,sp⟩
theorem OwC.ext (h : OwC w lo hi o1 o2 o3 o4 o5 x) (e : Ext w w') : OwC w' lo hi o1 o2 o3 o4 o5 x:=h.same (e.keeps (by simp))
theorem OwC.mod (h : OwC w lo hi o1 o2 o3 o4 o5 x) (m : Mod w w' y) (hx : ∀ g,y = some g → g < lo ∨ hi ≤ g) : OwC w' lo hi o1 o2 o3 o4 o5 x:=h.same (m.keeps hx)
theorem OwC.modR (h : OwC w lo hi o1 o2 o3 o4 o5 x) (m : ModR w w' lo' hi') (hx : hi ≤ lo' ∨ hi' ≤ lo) : OwC w' lo hi o1 o2 o3 o4 o5 x:=h.same (m.keeps hx)
theorem OwC.widen (h : OwC w lo hi o1 o2 o3 o4 o5 x) (a : lo' ≤ lo) (b : hi ≤ hi') : OwC w lo' hi' o1 o2 o3 o4 o5 x:=by
 obtain ⟨f1,f2,f3,h1,h2,h3,h4,h5,sp⟩:=h
 exact ⟨f1,f2,f3,h1.widen a b,h2.widen a b,h3.widen a b,h4.widen a b,h5.widen a b,sp⟩
theorem OwC.rd1 (h : OwC w lo hi o1 o2 o3 o4 o5 x) : RdD w lo hi o1 x.graph.nodes:=by obtain ⟨f1,f2,f3,h1,h2,h3,h4,h5,sp⟩:=h;exact h1.rd
theorem OwC.rd2 (h : OwC w lo hi o1 o2 o3 o4 o5 x) : RdD w lo hi o2 x.workers:=by obtain ⟨f1,f2,f3,h1,h2,h3,h4,h5,sp⟩:=h;exact h2.rd
theorem OwC.rd3 (h : OwC w lo hi o1 o2 o3 o4 o5 x) : RdD w lo hi o3 x.links:=by obtain ⟨f1,f2,f3,h1,h2,h3,h4,h5,sp⟩:=h;exact h3.rd
theorem OwC.rd4 (h : OwC w lo hi o1 o2 o3 o4 o5 x) : RdD w lo hi o4 x.tokens:=by obtain ⟨f1,f2,f3,h1,h2,h3,h4,h5,sp⟩:=h;exact h4.rdD
theorem OwC.rd5 (h : OwC w lo hi o1 o2 o3 o4 o5 x) : RdD w lo hi o5 x.news:=by obtain ⟨f1,f2,f3,h1,h2,h3,h4,h5,sp⟩:=h;exact h5.rdD
theorem OwC.setW {P : Program} {t i lo2 hi2 : Nat} {z cs : List Value} {y : Worker} (hT : StT P t (Dat.sz Worker) z) (h : OwC w lo hi o1 o2 o3 o4 o5 x) (hi' : i < x.workers.length) (ho : Own1.O w lo2 hi2 cs y) (hd : hi ≤ lo2) (hl : lo ≤ lo2) (hh : hi ≤ hi2) :
  ∃ w',(storeVar t ⟨Xf o2,Xm o2 + i * Dat.sz Worker,none⟩ (.agg cs.toArray)).run P w = .ok () w' ∧ Mod w w' o2.ownBlock ∧ OwC w' lo hi2 o1 o2 o3 o4 o5 { x with workers:=x.workers.set i y }:=by
 obtain ⟨f1,f2,f3,h1,h2,h3,h4,h5,⟨d1,d2,d3,d4,_⟩,⟨d5,d6,d7,_⟩,sp⟩:=h
 have far : ∀ {f : List Nat},(∀ b ∈ f,lo ≤ b ∧ b < hi) → Dj f (Vc cs):=fun hf b hb hc=>by have:=hf b hb;have:=Own1.inn ho b hc;omega
 obtain ⟨w',f',hr,hm,h2',kq,hin⟩:=h2.set hT hi' ho (far h2.in2) hl hh
 exact ⟨w',hr,hm,f1,f',f3,(h1.kp (kq.kp d1)).widen (Nat.le_refl _) hh,h2',(h3.kp (kq.kp d5.symm)).widen (Nat.le_refl _) hh,(h4.kp (kq.kp d6.symm)).widen (Nat.le_refl _) hh,(h5.kp (kq.kp d7.symm)).widen (Nat.le_refl _) hh,
  ⟨d1.grow hin (far h1.in2),d2,d3,d4,trivial⟩,⟨(d5.symm.grow hin (far h3.in2)).symm,(d6.symm.grow hin (far h4.in2)).symm,(d7.symm.grow hin (far h5.in2)).symm,trivial⟩,sp⟩
theorem OwC.of2 (x : Cluster) {a b a2 b2 a3 b3 : Nat} {f1 : List Nat} (h1 : OwF w a b o1 x.graph.nodes f1) (h2 : OwS w a2 b2 o2 x.workers) (h3 : OwS w a3 b3 o3 x.links) (h4 : Own w a b 5 o4 (List.flatMap (Enc.enc (α:=Token)) x.tokens)) (h5 : Own w a b 3 o5 (List.flatMap (Enc.enc (α:=News)) x.news)) (dj : DjL [f1,Kr o4,Kr o5])
  (hb : lo ≤ a ∧ b ≤ hi ∧ lo ≤ a2 ∧ b2 ≤ hi ∧ lo ≤ a3 ∧ b3 ≤ hi) (hd : (b ≤ a2 ∨ b2 ≤ a) ∧ (b ≤ a3 ∨ b3 ≤ a) ∧ (b2 ≤ a3 ∨ b3 ≤ a2)) : OwC w lo hi o1 o2 o3 o4 o5 x:=by
 obtain ⟨f2,h2⟩:=h2.owf
 obtain ⟨f3,h3⟩:=h3.owf
 obtain ⟨p1,q1,p2,q2,p3,q3⟩:=hb
 obtain ⟨d1,d2,d5⟩:=hd
 obtain ⟨⟨e1,e2,_⟩,⟨e3,_⟩,_⟩:=dj
 exact ⟨f1,f2,f3,h1.widen p1 q1,h2.widen p2 q2,h3.widen p3 q3,h4.widen p1 q1,h5.widen p1 q1,
  ⟨Dj.apart h1.in2 h2.in2 d1,Dj.apart h1.in2 h3.in2 d2,e1,e2,trivial⟩,⟨Dj.apart h2.in2 h3.in2 d5,(Dj.apart h4.in2 h2.in2 d1).symm,(Dj.apart h5.in2 h2.in2 d1).symm,trivial⟩,
  ⟨(Dj.apart h4.in2 h3.in2 d2).symm,(Dj.apart h5.in2 h3.in2 d2).symm,trivial⟩,⟨e3,trivial⟩,trivial,trivial⟩
def OwR (w : World) (lo hi b : Nat) (o1 o2 o3 o4 o5 : Value) (x : Cluster) (ok : Bool) : Prop :=
 ∃ f1 f2 f3,Blk w b [o1,.int .i64 x.graph.workers,.int .i64 x.graph.cap,o2,o3,o4,o5,.bool ok] ∧ lo ≤ b ∧ OwF w lo hi o1 x.graph.nodes f1 ∧ OwF w lo hi o2 x.workers f2 ∧ OwF w lo hi o3 x.links f3 ∧ Own w lo hi 5 o4 (List.flatMap (Enc.enc (α:=Token)) x.tokens) ∧ Own w lo hi 3 o5 (List.flatMap (Enc.enc (α:=News)) x.news) ∧ DjL [f1,f2,f3,Kr o4,Kr o5,[b]]
theorem OwR.of {b : Nat} {ok : Bool} (h : OwC w lo hi o1 o2 o3 o4 o5 x) (hB : Blk w b [o1,.int .i64 x.graph.workers,.int .i64 x.graph.cap,o2,o3,o4,o5,.bool ok]) (hd : b < lo ∨ hi ≤ b) (h1 : lo' ≤ lo) (h2 : lo' ≤ b) (h3 : hi ≤ hi') : OwR w lo' hi' b o1 o2 o3 o4 o5 x ok:=by
 obtain ⟨f1,f2,f3,a1,a2,a3,a4,a5,⟨d1,d2,d3,d4,_⟩,⟨d5,d6,d7,_⟩,⟨d8,d9,_⟩,⟨d10,_⟩,_⟩:=h
 have far : ∀ {f : List Nat},(∀ y ∈ f,lo ≤ y ∧ y < hi) → Dj f [b]:=fun hf y hy hc=>by have:=hf y hy;simp at hc;omega
 exact ⟨f1,f2,f3,hB,h2,a1.widen h1 h3,a2.widen h1 h3,a3.widen h1 h3,a4.widen h1 h3,a5.widen h1 h3,
  ⟨d1,d2,d3,d4,far a1.in2,trivial⟩,⟨d5,d6,d7,far a2.in2,trivial⟩,⟨d8,d9,far a3.in2,trivial⟩,⟨d10,far a4.in2,trivial⟩,⟨far a5.in2,trivial⟩,trivial,trivial⟩
theorem OwC.blk2 (h : OwC w lo hi o1 o2 o3 o4 o5 x) : ∀ g,o2.ownBlock = some g → lo ≤ g ∧ g < hi:=by obtain ⟨f1,f2,f3,h1,h2,h3,h4,h5,sp⟩:=h;exact fun g hg=>h2.ows.inn g hg
theorem OwC.of (x : Cluster) {a1 b1 a2 b2 a3 b3 a4 b4 a5 b5 : Nat} (h1 : OwS w a1 b1 o1 x.graph.nodes) (h2 : OwS w a2 b2 o2 x.workers) (h3 : OwS w a3 b3 o3 x.links) (h4 : Own w a4 b4 5 o4 (List.flatMap (Enc.enc (α:=Token)) x.tokens)) (h5 : Own w a5 b5 3 o5 (List.flatMap (Enc.enc (α:=News)) x.news))
  (hb : lo ≤ a1 ∧ b1 ≤ hi ∧ lo ≤ a2 ∧ b2 ≤ hi ∧ lo ≤ a3 ∧ b3 ≤ hi ∧ lo ≤ a4 ∧ b4 ≤ hi ∧ lo ≤ a5 ∧ b5 ≤ hi)
  (hd : (b1 ≤ a2 ∨ b2 ≤ a1) ∧ (b1 ≤ a3 ∨ b3 ≤ a1) ∧ (b1 ≤ a4 ∨ b4 ≤ a1) ∧ (b1 ≤ a5 ∨ b5 ≤ a1) ∧ (b2 ≤ a3 ∨ b3 ≤ a2) ∧ (b2 ≤ a4 ∨ b4 ≤ a2) ∧ (b2 ≤ a5 ∨ b5 ≤ a2) ∧ (b3 ≤ a4 ∨ b4 ≤ a3) ∧ (b3 ≤ a5 ∨ b5 ≤ a3) ∧ (b4 ≤ a5 ∨ b5 ≤ a4)) : OwC w lo hi o1 o2 o3 o4 o5 x:=by
 obtain ⟨f1,h1⟩:=h1.owf
 obtain ⟨f2,h2⟩:=h2.owf
 obtain ⟨f3,h3⟩:=h3.owf
 obtain ⟨p1,q1,p2,q2,p3,q3,p4,q4,p5,q5⟩:=hb
 obtain ⟨d1,d2,d3,d4,d5,d6,d7,d8,d9,d10⟩:=hd
 exact ⟨f1,f2,f3,h1.widen p1 q1,h2.widen p2 q2,h3.widen p3 q3,h4.widen p4 q4,h5.widen p5 q5,
  ⟨Dj.apart h1.in2 h2.in2 d1,Dj.apart h1.in2 h3.in2 d2,Dj.apart h1.in2 h4.in2 d3,Dj.apart h1.in2 h5.in2 d4,trivial⟩,⟨Dj.apart h2.in2 h3.in2 d5,Dj.apart h2.in2 h4.in2 d6,Dj.apart h2.in2 h5.in2 d7,trivial⟩,
  ⟨Dj.apart h3.in2 h4.in2 d8,Dj.apart h3.in2 h5.in2 d9,trivial⟩,⟨Dj.apart h4.in2 h5.in2 d10,trivial⟩,trivial,trivial⟩
end
def To (k : Nat) : Cell:=⟨((k : Nat) : Int),((k + 1 : Nat) : Int),((k + 1 + 1 : Nat) : Int),((k + 1 + 1 + 1 : Nat) : Int)⟩
def Xt (a b : Int) : Int:=if a < b then -1 else if b < a then 1 else 0
def Up (m : Nat) (n : Int) : Int:=if n - m < 0 then -1 else n - m
theorem B3 {m : Nat} {n : Int} (h : n ≤ 1048576) (h0 : 0 ≤ n) (hm : m ≤ maxLen) (hc : decide (IntKind.i64.wrap (n - (m : Int)) < 0) = true) : Value.int .i64 (-1) = .int .i64 (Up m n):=by
 unfold maxLen at hm
 rw [Ub (by omega) (by omega)] at hc
 have : n - (m : Int) < 0:=by simpa using hc
 simp [Up,this]
theorem C0 {m : Nat} {n : Int} (h : n ≤ 1048576) (h0 : 0 ≤ n) (hm : m ≤ maxLen) (hc : decide (IntKind.i64.wrap (n - (m : Int)) < 0) = false) : Value.int .i64 (IntKind.i64.wrap (n - (m : Int))) = .int .i64 (Up m n):=by
 unfold maxLen at hm
 rw [Ub (by omega) (by omega)] at hc ⊢
 have : ¬ n - (m : Int) < 0:=by simpa using hc
 simp [Up,this]
theorem Un {m : Nat} {n : Int} (h : decide (Up m n < 0) = false) (hn : 0 ≤ n ∧ n ≤ 1048576) : m ≤ 1048576 ∧ 0 ≤ Up m n ∧ Up m n ≤ 1048576 ∧ Up m n = n - m:=by
 have h:=of_decide_eq_false h
 simp only [Up] at *
 split at h
 ·omega
 ·rename_i hx
  rw [if_neg hx];omega
theorem Uo {m : Nat} {n : Int} (h : decide (Up m n < 0) = true) (_ : 0 ≤ n) : n < m:=by
 have h:=of_decide_eq_true h
 simp only [Up] at *
 split at h <;> omega
theorem Kz {X n : Int} {t : Nat} (h1 : (t : Int) ≤ n) (h2 : X = n - t) : Value.int .i64 X = .int .i64 (Up t n):=by
 rw [Up,if_neg (by omega),h2]
theorem Kg {n : Int} {t : Nat} (h : n < t) : Value.int .i64 (-1) = .int .i64 (Up t n):=by
 rw [Up,if_pos (by omega)]
section
variable {α : Type} {xs : List α} {f : α → Nat} {k : Nat}
theorem B4 (h : k < xs.length) : ((xs.take (k + 1)).map f).sum = ((xs.take k).map f).sum + f xs[k]:=by
 rw [List.take_succ_eq_append_getElem h,List.map_append,List.sum_append]
 simp only [List.map_cons,List.map_nil,List.sum_cons,List.sum_nil,Nat.add_zero]
theorem Gf (h : k < xs.length) : ((xs.take k).map f).sum + f xs[k] ≤ (xs.map f).sum:=by
 have : xs = xs.take k ++ xs[k] :: xs.drop (k + 1):=by rw [← List.drop_eq_getElem_cons h,List.take_append_drop]
 have h2 : (xs.map f).sum = ((xs.take k ++ xs[k] :: xs.drop (k + 1)).map f).sum:=by rw [← this]
 rw [h2,List.map_append,List.sum_append,List.map_cons,List.sum_cons];omega
theorem sum_all (h : xs.length ≤ k) : ((xs.take k).map f).sum = (xs.map f).sum:=by rw [List.take_of_length_le h]
end
section
variable {α : Type} {xs ys : List α} {k : Nat}
theorem H6 (h : ¬ xs.length = ys.length) : xs ≠ ys:=fun e=>h (by rw [e])
theorem Vn (hp : xs.take k = ys.take k) (h1 : k < xs.length) (h2 : k < ys.length) (h : xs[k] = ys[k]) : xs.take (k + 1) = ys.take (k + 1):=by
 rw [List.take_succ_eq_append_getElem h1,List.take_succ_eq_append_getElem h2,hp,h]
variable [DecidableEq α]
theorem H7 (h1 : k < xs.length) (h2 : k < ys.length) (h : ¬ xs[k] = ys[k]) : Value.bool false = .bool (decide (xs = ys)):=by
 have : xs ≠ ys:=fun e=>h (by subst e;rfl)
 simp [this]
theorem Gr (hp : xs.take k = ys.take k) (hl : xs.length = ys.length) (hk : xs.length ≤ k) : Value.bool true = .bool (decide (xs = ys)):=by
 rw [List.take_of_length_le hk,List.take_of_length_le (by omega)] at hp
 simp [hp]
end
def Vt : List Int → List Int → Int
 | [],[]=>0
 | [],_ :: _=>-1
 | _ :: _,[]=>1
 | x :: xs,y :: ys=>if Xt x y = 0 then Vt xs ys else Xt x y
section
variable {xs ys : List Int} {k : Nat}
theorem D9 (hI : Vt (xs.drop k) (ys.drop k) = Vt xs ys) (h1 : k < xs.length) (h2 : k < ys.length) : Vt xs ys = if Xt xs[k] ys[k] = 0 then Vt (xs.drop (k + 1)) (ys.drop (k + 1)) else Xt xs[k] ys[k]:=by
 rw [← hI,List.drop_eq_getElem_cons h1,List.drop_eq_getElem_cons h2,Vt]
theorem cmpL_step (hI : Vt (xs.drop k) (ys.drop k) = Vt xs ys) (h1 : k < xs.length) (h2 : k < ys.length) (h : Xt xs[k] ys[k] = 0) : Vt (xs.drop (k + 1)) (ys.drop (k + 1)) = Vt xs ys:=by
 rw [D9 hI h1 h2,if_pos h]
theorem cmpL_1 (hI : Vt (xs.drop k) (ys.drop k) = Vt xs ys) (h1 : k < xs.length) (h2 : ys.length ≤ k) : Value.int .i64 1 = .int .i64 (Vt xs ys):=by
 rw [← hI,List.drop_eq_getElem_cons h1,List.drop_of_length_le h2,Vt]
theorem cmpL_2 (hI : Vt (xs.drop k) (ys.drop k) = Vt xs ys) (h1 : k < xs.length) (h2 : k < ys.length) (h : ¬ Xt xs[k] ys[k] = 0) : Value.int .i64 (Xt xs[k] ys[k]) = .int .i64 (Vt xs ys):=by
 rw [D9 hI h1 h2,if_neg h]
theorem cmpL_3 (hI : Vt (xs.drop k) (ys.drop k) = Vt xs ys) (h1 : xs.length ≤ k) (h2 : k < ys.length) : Value.int .i64 (-1) = .int .i64 (Vt xs ys):=by
 rw [← hI,List.drop_eq_getElem_cons h2,List.drop_of_length_le h1,Vt]
theorem cmpL_4 (hI : Vt (xs.drop k) (ys.drop k) = Vt xs ys) (h1 : xs.length ≤ k) (h2 : ys.length ≤ k) : Value.int .i64 0 = .int .i64 (Vt xs ys):=by
 rw [← hI,List.drop_of_length_le h2,List.drop_of_length_le h1,Vt]
end
def Ku : List Int → Int
 | []=>0
 | x :: xs=>if x = 0 then Ku xs else x
section
variable {xs : List Int} {k : Nat}
theorem firstNZ_step (hI : Ku (xs.drop k) = Ku xs) (h1 : k < xs.length) (h : xs[k] = 0) : Ku (xs.drop (k + 1)) = Ku xs:=by
 rw [← hI,List.drop_eq_getElem_cons h1,Ku,if_pos h]
theorem firstNZ_yes (hI : Ku (xs.drop k) = Ku xs) (h1 : k < xs.length) (h : ¬ xs[k] = 0) : xs[k] = Ku xs:=by
 rw [← hI,List.drop_eq_getElem_cons h1,Ku,if_neg h]
theorem firstNZ_no (hI : Ku (xs.drop k) = Ku xs) (h1 : xs.length ≤ k) : Ku xs = 0:=by
 rw [← hI,List.drop_of_length_le h1,Ku]
end
def Ka (x y : Cell) : Int:=Vt [x.epoch,x.op,x.key,x.val] [y.epoch,y.op,y.key,y.val]
theorem Ds (x y : Cell) : Ka x y = Ku [Xt x.epoch y.epoch,Xt x.op y.op,Xt x.key y.key,Xt x.val y.val]:=by simp [Ka,Vt,Ku]
theorem cellOrd_a {x y : Cell} {n : Int} (h : n = Ku [Xt x.epoch y.epoch,Xt x.op y.op,Xt x.key y.key,Xt x.val y.val]) : Value.int .i64 n = .int .i64 (Ka x y):=by rw [Ds,h]
theorem cellOrd_b {x y : Cell} (h : Ku [Xt x.epoch y.epoch,Xt x.op y.op,Xt x.key y.key,Xt x.val y.val] = 0) : Value.int .i64 0 = .int .i64 (Ka x y):=by rw [Ds,h]
section
variable {α : Type} {xs : List α} {x : α} {k : Nat}
theorem has_step (hI : x ∉ xs.take k) (h1 : k < xs.length) (h : ¬ xs[k] = x) : x ∉ xs.take (k + 1):=by
 rw [List.take_succ_eq_append_getElem h1]
 simp only [List.mem_append,List.mem_singleton,not_or]
 exact ⟨hI,fun e=>h e.symm⟩
variable [DecidableEq α]
theorem has_yes (h1 : k < xs.length) (h : xs[k] = x) : Value.bool true = .bool (decide (x ∈ xs)):=by
 have : x ∈ xs:=h ▸ List.getElem_mem h1
 simp [this]
theorem has_no (hI : x ∉ xs.take k) (h1 : xs.length ≤ k) : Value.bool false = .bool (decide (x ∈ xs)):=by
 rw [List.take_of_length_le h1] at hI
 simp [hI]
def idxI (xs : List α) (x : α) : Int:=if x ∈ xs then (xs.idxOf x : Int) else -1
theorem idx_yes (hI : x ∉ xs.take k) (h1 : k < xs.length) (h : xs[k] = x) : Value.int .i64 ((k : Nat) : Int) = .int .i64 (idxI xs x):=by
 have hm : x ∈ xs:=h ▸ List.getElem_mem h1
 have : xs.idxOf x = k:=by
  rw [← List.take_append_drop k xs,List.idxOf_append,if_neg hI,List.drop_eq_getElem_cons h1,h]
  simp;omega
 simp [idxI,hm,this]
theorem idx_no (hI : x ∉ xs.take k) (h1 : xs.length ≤ k) : Value.int .i64 (-1) = .int .i64 (idxI xs x):=by
 rw [List.take_of_length_le h1] at hI
 simp [idxI,hI]
theorem has_idx : Value.bool (decide (0 ≤ idxI xs x)) = .bool (decide (x ∈ xs)):=by
 unfold idxI
 by_cases h : x ∈ xs <;> simp [h]
end
def K6 (x y : Cell) : Bool:=x.op == y.op && x.epoch == y.epoch && x.key == y.key
def K2 (op epoch key : Int) : List Cell → Int → Bool → Int × Bool
 | [],n,s=>(n,s)
 | x :: xs,n,s=>if K6 x ⟨op,epoch,key,0⟩ && (!s || decide (x.val < n)) then K2 op epoch key xs x.val true else K2 op epoch key xs n s
def Y4 (xs : List Cell) (op epoch key : Int) : Int × Bool:=K2 op epoch key xs 0 false
section
variable {xs : List Cell} {op epoch key n : Int} {s : Bool} {k : Nat} {r : Int × Bool}
theorem Bl (hI : K2 op epoch key (xs.drop k) n s = r) (h1 : k < xs.length) (h : (K6 xs[k] ⟨op,epoch,key,0⟩ && (!s || decide (xs[k].val < n))) = true) : K2 op epoch key (xs.drop (k + 1)) xs[k].val true = r:=by
 rw [← hI,List.drop_eq_getElem_cons h1,K2,if_pos h]
theorem Dl (hI : K2 op epoch key (xs.drop k) n s = r) (h1 : k < xs.length) (h : (K6 xs[k] ⟨op,epoch,key,0⟩ && (!s || decide (xs[k].val < n))) = false) : K2 op epoch key (xs.drop (k + 1)) n s = r:=by
 rw [← hI,List.drop_eq_getElem_cons h1,K2,if_neg (by simp [h])]
end
section
variable {α : Type} {xs : List α} {p : α → Bool} {k : Nat}
theorem Kf (hI : (xs.take k).all p = true) (h1 : k < xs.length) (h : p xs[k] = true) : (xs.take (k + 1)).all p = true:=by
 rw [List.take_succ_eq_append_getElem h1,List.all_append,hI]
 simp [h]
theorem all_no (h1 : k < xs.length) (h : p xs[k] = false) : Value.bool false = .bool (xs.all p):=by
 congr 1;symm;rw [List.all_eq_false]
 exact ⟨_,List.getElem_mem h1,by simp [h]⟩
theorem Bz (hI : (xs.take k).all p = true) (h1 : xs.length ≤ k) : Value.bool true = .bool (xs.all p):=by
 rw [List.take_of_length_le h1] at hI;rw [hI]
theorem filt_yes [Enc α] (h1 : k < xs.length) (h : p xs[k] = true) : ((xs.take k).filter p).flatMap Enc.enc ++ Enc.enc xs[k] = ((xs.take (k + 1)).filter p).flatMap Enc.enc:=by
 rw [List.take_succ_eq_append_getElem h1,List.filter_append,List.flatMap_append];simp [h]
theorem filt_no [Enc α] (h1 : k < xs.length) (h : p xs[k] = false) : ((xs.take k).filter p).flatMap Enc.enc = ((xs.take (k + 1)).filter p).flatMap Enc.enc:=by
 rw [List.take_succ_eq_append_getElem h1,List.filter_append,List.flatMap_append];simp [h]
theorem Dq [Enc α] (xs : List α) (p : α → Bool) (k : Nat) : (((xs.take k).filter p).flatMap Enc.enc).length ≤ xs.length * Enc.sz α:=by
 rw [Yb]
 refine Nat.mul_le_mul_right _ (Nat.le_trans (List.length_filter_le _ _) ?_)
 simp;omega
def T5 : List α → List (α × α)
 | x :: y :: l=>(x,y) :: T5 (y :: l)
 | _=>[]
theorem B0 : ∀ (xs : List α),(T5 xs).length = xs.length - 1
 | []=>rfl
 | [_]=>rfl
 | x :: y :: l=>by have:=B0 (y :: l);simp only [T5,List.length_cons] at *;omega
theorem adj_get : ∀ (xs : List α) (j : Nat) (h : j + 1 < xs.length) (h' : j < (T5 xs).length),(T5 xs)[j] = (xs[j],xs[j + 1])
 | x :: y :: l,0,_,_=>rfl
 | x :: y :: l,j + 1,h,h'=>by
  have:=adj_get (y :: l) j (by simpa using h) (by simpa [T5] using h')
  simpa [T5] using this
variable {q : α × α → Bool} {j : Nat}
theorem adj_step (hI : ((T5 xs).take j).all q = true) (h1 : j + 1 < xs.length) (h : q (xs[j],xs[j + 1]) = true) : ((T5 xs).take (j + 1)).all q = true:=by
 have h2 : j < (T5 xs).length:=by rw [B0];omega
 exact Kf hI h2 (by rw [adj_get xs j h1 h2];exact h)
theorem adj_no (h1 : j + 1 < xs.length) (h : q (xs[j],xs[j + 1]) = false) : Value.bool false = .bool ((T5 xs).all q):=by
 have h2 : j < (T5 xs).length:=by rw [B0];omega
 exact all_no h2 (by rw [adj_get xs j h1 h2];exact h)
theorem adj_yes (hI : ((T5 xs).take j).all q = true) (h1 : xs.length ≤ j + 1) : Value.bool true = .bool ((T5 xs).all q):=Bz hI (by rw [B0];omega)
end
def nwP (a : List Cell) (x : Cell) : Bool:=!(!(Y4 a x.op x.epoch x.key).2 || decide (x.val < (Y4 a x.op x.epoch x.key).1))
def isOf (op epoch : Int) (x : Cell) : Bool:=x.op == op && x.epoch == epoch
def Ko (q : Cell × Cell) : Bool:=!decide (0 ≤ Ka q.1 q.2)
def Yw (n lo hi : Int) : Bool:=decide (lo ≤ n) && decide (n ≤ hi)
def Hy (g : Graph) (a b : Int) : Int:=if a < 0 ∨ b < 0 ∨ g.workers ≤ a ∨ g.workers ≤ b then -1 else IntKind.i64.wrap (IntKind.i64.wrap (a * g.workers) + b)
section
variable {x y : Graph} {k : Nat}
end
theorem kx {p q : Bool} (h : (!p || !q) = true) : (p && q) = false:=by cases p <;> cases q <;> simp_all
theorem ky {p q : Bool} (h : (!p || !q) = false) : (p && q) = true:=by cases p <;> cases q <;> simp_all
theorem kx0 {w p q : Bool} (h : (!p || !q) = true) : ((w && p) && q) = false:=by cases w <;> cases p <;> cases q <;> simp_all
theorem ky0 {w p q : Bool} (h : (!p || !q) = false) (hw : w = true) : ((w && p) && q) = true:=by cases w <;> cases p <;> cases q <;> simp_all
def U6 (x : Node) : Bool :=
 if x.kind = 2 then Yw x.a 0 999 && x.b == 0 else if x.kind = 3 then Yw x.a 1 10 && Yw x.b 0 (IntKind.i64.wrap (x.a - 1)) else if x.kind = 4 then Yw x.a 0 99 && x.b == 0
 else Yw x.kind 1 8 && (x.a == 0) && (x.b == 0)
def Dd (x : Node) : Bool:=((decide (2 < ((x.outs.length : Nat) : Int))) || ((x.kind == 8) && (decide (0 < ((x.outs.length : Nat) : Int))))) || ((((x.outs.length : Nat) : Int) == 2) && ((List.getD x.outs 0 default) == (List.getD x.outs 1 default)))
def Xb (x : Node) : Bool:=U6 x && !Dd x && x.outs.all (Yw · 0 7)
section
variable {x : Node} {k : Nat}
theorem H4 (h : U6 x = false) : Value.bool false = .bool (Xb x):=by simp [Xb,h]
theorem node_t (h : Dd x = true) : Value.bool false = .bool (Xb x):=by simp [Xb,h]
theorem node_l {h1 : k < x.outs.length} (h : (!(Yw x.outs[k] 0 7)) = true) : Value.bool false = .bool (Xb x):=by
 have : x.outs.all (Yw · 0 7) = false:=by
  rw [List.all_eq_false];exact ⟨_,List.getElem_mem h1,by simpa using h⟩
 simp [Xb,this]
theorem node_y (hk : U6 x = true) (ht : Dd x = false) (hI : (x.outs.take k).all (Yw · 0 7) = true) (h1 : x.outs.length ≤ k) : Value.bool true = .bool (Xb x):=by
 rw [List.take_of_length_le h1] at hI
 simp [Xb,hk,ht,hI]
theorem node_2 (h : (x.kind == 2) = true) : U6 x = (Yw x.a 0 999 && x.b == 0):=by simp at h;simp [U6,h]
theorem node_3 (h : (x.kind == 3) = true) : U6 x = (Yw x.a 1 10 && Yw x.b 0 (IntKind.i64.wrap (x.a - 1))):=by simp at h;simp [U6,h]
theorem node_4 (h : (x.kind == 4) = true) : U6 x = (Yw x.a 0 99 && x.b == 0):=by simp at h;simp [U6,h]
theorem G1 (h2 : (x.kind == 2) = false) (h3 : (x.kind == 3) = false) (h4 : (x.kind == 4) = false) : U6 x = (Yw x.kind 1 8 && (x.a == 0) && (x.b == 0)):=by simp at h2 h3 h4;simp [U6,h2,h3,h4]
theorem Gt {n : Int} (h : n = 1 ∨ n = 2 ∨ n = 3 ∨ n = 4 ∨ n = 5 ∨ n = 6 ∨ n = 7 ∨ n = 8) : Yw n 1 8 = true:=by
 rcases h with h | h | h | h | h | h | h | h <;> subst h <;> decide
theorem win_not {n : Int} (h : ¬ (n = 1 ∨ n = 2 ∨ n = 3 ∨ n = 4 ∨ n = 5 ∨ n = 6 ∨ n = 7 ∨ n = 8)) : Yw n 1 8 = false:=by
 simp only [Yw,Bool.and_eq_false_iff,decide_eq_false_iff_not];omega
def nodeS (x : Node) (p q : Bool) : Bool:=(((!(Yw x.kind 1 8) || !p) || !q) || (decide (2 < ((x.outs.length : Nat) : Int)))) || ((x.kind == 8) && (decide (0 < ((x.outs.length : Nat) : Int))))
theorem node_s {p q : Bool} (hk : U6 x = (Yw x.kind 1 8 && p && q)) (h : nodeS x p q = true) : Value.bool false = .bool (Xb x):=by
 simp only [nodeS] at h
 cases hkk : U6 x with
 | false=>exact H4 hkk
 | true =>
  rw [hkk] at hk
  have hk:=hk.symm
  simp only [Bool.and_eq_true] at hk
  obtain ⟨⟨h1,h2⟩,h3⟩:=hk
  simp only [h1,h2,h3,Bool.not_true,Bool.false_or] at h
  exact node_t (by simp only [Dd,h,Bool.true_or])
theorem node_p {p q : Bool} (h : nodeS x p q = false) (hk : U6 x = (Yw x.kind 1 8 && p && q)) : U6 x = true ∧ ((decide (2 < ((x.outs.length : Nat) : Int))) || ((x.kind == 8) && (decide (0 < ((x.outs.length : Nat) : Int))))) = false:=by
 simp only [nodeS,Bool.or_eq_false_iff] at h
 obtain ⟨⟨⟨⟨h1,h2⟩,h3⟩,h4⟩,h5⟩:=h
 simp only [Bool.not_eq_false'] at h1 h2 h3
 simp only [hk,h1,h2,h3,h4,h5];simp
theorem node_d {h1 : k < x.outs.length} (h : ((!(Yw x.outs[k] 0 7)) || ((decide (0 < ((k : Nat) : Int))) && ((List.getD x.outs 0 default) == (List.getD x.outs 1 default)))) = true) (ht : ((decide (2 < ((x.outs.length : Nat) : Int))) || ((x.kind == 8) && (decide (0 < ((x.outs.length : Nat) : Int))))) = false) : Value.bool false = .bool (Xb x):=by
 rcases Bool.or_eq_true _ _ ▸ h with h | h
 ·exact node_l h
 ·simp only [Bool.and_eq_true,decide_eq_true_eq] at h
  have ht2:=(Bool.or_eq_false_iff.1 ht).1
  simp only [decide_eq_false_iff_not] at ht2
  refine node_t ?_
  have : ((x.outs.length : Nat) : Int) = 2:=by omega
  simp only [Dd,this,h.2];simp
theorem nodeL {h1 : k < x.outs.length} (h : ((!(Yw x.outs[k] 0 7)) || ((decide (0 < ((k : Nat) : Int))) && ((List.getD x.outs 0 default) == (List.getD x.outs 1 default)))) = false) : Yw x.outs[k] 0 7 = true:=by
 have:=(Bool.or_eq_false_iff.1 h).1
 simpa using this
theorem nodeJ {h1 : k < x.outs.length} (h : ((!(Yw x.outs[k] 0 7)) || ((decide (0 < ((k : Nat) : Int))) && ((List.getD x.outs 0 default) == (List.getD x.outs 1 default)))) = false) : 1 < k + 1 → ((List.getD x.outs 0 default) == (List.getD x.outs 1 default)) = false:=fun hk=>by
 have:=(Bool.or_eq_false_iff.1 h).2
 have hd : decide (0 < ((k : Nat) : Int)) = true:=decide_eq_true (by omega)
 rwa [hd,Bool.true_and] at this
theorem node_z {p q : Bool} (hS : nodeS x p q = false) (hk : U6 x = (Yw x.kind 1 8 && p && q)) (hI : (x.outs.take k).all (Yw · 0 7) = true) (hJ : 1 < k → ((List.getD x.outs 0 default) == (List.getD x.outs 1 default)) = false) (h1 : x.outs.length ≤ k) : Value.bool true = .bool (Xb x):=by
 obtain ⟨hk,ht⟩:=node_p hS hk
 refine node_y hk ?_ hI h1
 simp only [Dd,ht,Bool.false_or,Bool.and_eq_false_iff]
 by_cases h2 : ((x.outs.length : Nat) : Int) = 2
 ·exact .inr (hJ (by omega))
 ·exact .inl (by simpa using h2)
end
def A8 (g : Graph) (to : Int) : Int:=(List.getD g.nodes to.toNat default).kind
def Um (g : Graph) (i : Nat) (x : Node) (to : Int) : Bool :=
 decide (((g.nodes.length : Nat) : Int) ≤ to) || (((x.kind == 7) && ((decide (((i : Nat) : Int) < to)) || ((A8 g to != 5) && (A8 g to != 6)))) || ((x.kind != 7) && (decide (to ≤ ((i : Nat) : Int)))))
def atOk (_ : Graph) (i : Nat) (x : Node) : Bool:=!((!(Xb x)) || (!((x.kind == 1) == (((i : Nat) : Int) == 0))))
def Ud (g : Graph) (i : Nat) (x : Node) : Bool:=atOk g i x && x.outs.all (fun to=>!Um g i x to)
def Ao (g : Graph) : Bool:=((!(Yw ((g.nodes.length : Nat) : Int) 1 8)) || (!(Yw g.workers 1 4))) || (!(Yw g.cap 1 4))
def Ys (g : Graph) : Bool:=!Ao g && (List.range g.nodes.length).all (fun i=>Ud g i (List.getD g.nodes i default))
section
variable {g : Graph} {i k : Nat}
theorem Ki {α : Type} [Inhabited α] {xs : List α} {i : Nat} (h : i < xs.length) : List.getD xs i default = xs[i]:=by simp [List.getD,h]
theorem graph_h (h : Ao g = true) : Value.bool false = .bool (Ys g):=by simp [Ys,h]
theorem graph_n {h1 : i < g.nodes.length} (h : Ud g i g.nodes[i] = false) : Value.bool false = .bool (Ys g):=by
 have : (List.range g.nodes.length).all (fun i=>Ud g i (List.getD g.nodes i default)) = false:=by
  rw [List.all_eq_false];exact ⟨i,by simpa using h1,by rw [Ki h1,h];simp⟩
 simp only [Ys,this,Bool.and_false]
theorem graph_a {h1 : i < g.nodes.length} (h : ((!(Xb g.nodes[i])) || (!((g.nodes[i].kind == 1) == (((i : Nat) : Int) == 0)))) = true) : Value.bool false = .bool (Ys g):=graph_n (h1:=h1) (by
 simp only [Ud,atOk,h];simp)
theorem Bx {h1 : i < g.nodes.length} {h2 : k < g.nodes[i].outs.length} (h : Um g i g.nodes[i] (g.nodes[i].outs[k]) = true) : Value.bool false = .bool (Ys g):=graph_n (h1:=h1) (by
 have : g.nodes[i].outs.all (fun to=>!Um g i g.nodes[i] to) = false:=by
  rw [List.all_eq_false];exact ⟨_,List.getElem_mem h2,by simp [h]⟩
 simp only [Ud,this,Bool.and_false])
theorem graph_s {h1 : i < g.nodes.length} (ha : ((!(Xb g.nodes[i])) || (!((g.nodes[i].kind == 1) == (((i : Nat) : Int) == 0)))) = false) (hI : (g.nodes[i].outs.take k).all (fun to=>!Um g i g.nodes[i] to) = true) (hk : g.nodes[i].outs.length ≤ k)
  (hp : ∀ j,j < i → Ud g j (List.getD g.nodes j default) = true) : ∀ j,j < i + 1 → Ud g j (List.getD g.nodes j default) = true:=fun j hj=>by
 by_cases e : j = i
 ·subst e
  rw [List.take_of_length_le hk] at hI
  rw [Ki h1];simp only [Ud,atOk,ha,hI];simp
 ·exact hp j (by omega)
theorem graph_y (hh : Ao g = false) (hp : ∀ j,j < i → Ud g j (List.getD g.nodes j default) = true) (hi : g.nodes.length ≤ i) : Value.bool true = .bool (Ys g):=by
 have : (List.range g.nodes.length).all (fun i=>Ud g i (List.getD g.nodes i default)) = true:=by
  rw [List.all_eq_true];intro j hj;exact hp j (by have:=List.mem_range.1 hj;omega)
 simp only [Ys,this,hh];simp
theorem edge_a {x : Node} {to : Int} (h : decide (((g.nodes.length : Nat) : Int) ≤ to) = true) : Um g i x to = true:=by simp only [Um,h,Bool.true_or]
theorem edge_b {x : Node} {to K : Int} (hK : K = A8 g to) (h : (((x.kind == 7) && ((decide (((i : Nat) : Int) < to)) || ((K != 5) && (K != 6)))) || ((x.kind != 7) && (decide (to ≤ ((i : Nat) : Int))))) = true) : Um g i x to = true:=by
 subst hK;simp only [Um,h,Bool.or_true]
theorem edge_n {x : Node} {to K : Int} (hK : K = A8 g to) (h1 : decide (((g.nodes.length : Nat) : Int) ≤ to) = false) (h : (((x.kind == 7) && ((decide (((i : Nat) : Int) < to)) || ((K != 5) && (K != 6)))) || ((x.kind != 7) && (decide (to ≤ ((i : Nat) : Int))))) = false) : (!Um g i x to) = true:=by
 subst hK;simp only [Um,h,h1,Bool.or_false,Bool.not_false]
theorem edge_s1 {x : Node} {to : Int} (h : ((decide (((g.nodes.length : Nat) : Int) ≤ to)) || ((x.kind != 7) && (decide (to ≤ ((i : Nat) : Int))))) = true) : Um g i x to = true:=by
 rcases Bool.or_eq_true _ _ ▸ h with h | h
 ·exact edge_a h
 ·simp only [Um,h,Bool.or_true]
theorem edge_s2 {x : Node} {to K : Int} (hK : K = A8 g to) (h : ((x.kind == 7) && ((decide (((i : Nat) : Int) < to)) || ((K != 5) && (K != 6)))) = true) : Um g i x to = true:=edge_b hK (by rw [h];rfl)
theorem edge_sn {x : Node} {to K : Int} (hK : K = A8 g to) (h1 : ((decide (((g.nodes.length : Nat) : Int) ≤ to)) || ((x.kind != 7) && (decide (to ≤ ((i : Nat) : Int))))) = false) (h : ((x.kind == 7) && ((decide (((i : Nat) : Int) < to)) || ((K != 5) && (K != 6)))) = false) : (!Um g i x to) = true :=
 edge_n hK (Bool.or_eq_false_iff.1 h1).1 (by rw [h,(Bool.or_eq_false_iff.1 h1).2];rfl)
theorem edge_lt {n to : Int} {q : Bool} (h : ((decide (n ≤ to)) || q) = false) : to < n:=by
 have:=of_decide_eq_false (Bool.or_eq_false_iff.1 h).1
 omega
theorem Dn {h1 : i < g.nodes.length} {h2 : k < g.nodes[i].outs.length} (ha : ((!(Xb g.nodes[i])) || (!((g.nodes[i].kind == 1) == (((i : Nat) : Int) == 0)))) = false) : 0 ≤ g.nodes[i].outs[k]:=by
 have hn : Xb g.nodes[i] = true:=by simpa using (Bool.or_eq_false_iff.1 ha).1
 simp only [Xb,Bool.and_eq_true,List.all_eq_true] at hn
 have:=hn.2 _ (List.getElem_mem h2)
 simp only [Yw,Bool.and_eq_true,decide_eq_true_eq] at this
 exact this.1
end
def ofE (e : Int) (r : Record) : Bool:=r.stamp.epoch == e
def workAt (x : Worker) (e : Int) : Int:=IntKind.i64.wrap (((x.queue.filter (ofE e)).length : Int) + ((x.staged.filter (ofE e)).length : Int))
def openAt (x : Worker) (e : Int) : Bool:=x.inputs.any fun r=>decide (r.stamp.epoch ≤ e)
def idle (x : Worker) : Bool:=(x.queue.length == 0) && (x.staged.length == 0) && (x.inputs.length == 0)
def isDone (x : Worker) (e : Int) : Bool:=x.dones.any fun d=>d.epoch == e
def An (k : Nat) : Int:=((k : Nat) : Int)
def Ce (k : Nat) : Bool:=Int.tmod ((k : Nat) : Int) 3 == 0
def Ky (k : Nat) : Record:=⟨((k : Nat) : Int),⟨((k + 1 : Nat) : Int),((k + 1 + 1 : Nat) : Int)⟩,((k + 1 + 1 + 1 : Nat) : Int),((k + 1 + 1 + 1 + 1 : Nat) : Int)⟩
def C9 (k : Nat) : Done:=⟨((k : Nat) : Int),Int.tmod ((k + 1 : Nat) : Int) 3 == 0⟩
def G6 (k : Nat) : Token:=⟨Int.tmod ((k : Nat) : Int) 3 == 0,((k + 1 : Nat) : Int),((k + 1 + 1 : Nat) : Int),Int.tmod ((k + 1 + 1 + 1 : Nat) : Int) 3 == 0,Int.tmod ((k + 1 + 1 + 1 + 1 : Nat) : Int) 3 == 0⟩
def C8 (k : Nat) : News:=⟨((k : Nat) : Int),((k + 1 : Nat) : Int),Int.tmod ((k + 1 + 1 : Nat) : Int) 3 == 0⟩
def V6 (k : Nat) (x : Worker) : Nat:=k + 5 * x.queue.length + 5 * x.staged.length + 5 * x.inputs.length + 4 * x.cells.length + 1 * x.sums.length + 1 * x.black.length + 1 * x.caps.length + 2 * x.dones.length
def Hx (k : Nat) (x : Worker) : Worker :=
 ⟨V2 5 Ky k x.queue.length,V2 5 Ky (k + 5 * x.queue.length) x.staged.length,V2 5 Ky (k + 5 * x.queue.length + 5 * x.staged.length) x.inputs.length,
  V2 4 To (k + 5 * x.queue.length + 5 * x.staged.length + 5 * x.inputs.length) x.cells.length,V2 1 An (k + 5 * x.queue.length + 5 * x.staged.length + 5 * x.inputs.length + 4 * x.cells.length) x.sums.length,
  V2 1 Ce (k + 5 * x.queue.length + 5 * x.staged.length + 5 * x.inputs.length + 4 * x.cells.length + 1 * x.sums.length) x.black.length,
  V2 1 Ce (k + 5 * x.queue.length + 5 * x.staged.length + 5 * x.inputs.length + 4 * x.cells.length + 1 * x.sums.length + 1 * x.black.length) x.caps.length,
  V2 2 C9 (k + 5 * x.queue.length + 5 * x.staged.length + 5 * x.inputs.length + 4 * x.cells.length + 1 * x.sums.length + 1 * x.black.length + 1 * x.caps.length) x.dones.length⟩
theorem A6 (j k : Nat) (x : Worker) : V6 j (Hx k x) = V6 j x:=by simp [V6,Hx,Qi]
theorem markW_idem (k : Nat) (x : Worker) : Hx k x = Hx k (Hx k x):=by simp [Hx,Qi]
theorem cntW_mark (k : Nat) (x : Worker) : Yd (Hx k x) = Yd x:=by simp [Yd,Hx,Qi]
theorem Du {α : Type} {xs : List α} {p : α → Bool} {k : Nat} (hI : (xs.take k).any p = false) (h1 : k < xs.length) (h : p xs[k] = false) : (xs.take (k + 1)).any p = false:=by
 rw [List.take_succ_eq_append_getElem h1,List.any_append,hI];simp [h]
def H0 {α : Type} (xs : List α) (p : α → Bool) : Int:=if xs.any p then ((xs.findIdx p : Nat) : Int) else -1
theorem find_yes {α : Type} {xs : List α} {p : α → Bool} {k : Nat} (hI : (xs.take k).any p = false) (h1 : k < xs.length) (h : p xs[k] = true) : Value.int .i64 ((k : Nat) : Int) = .int .i64 (H0 xs p):=by
 have ha : xs.any p = true:=by rw [List.any_eq_true];exact ⟨_,List.getElem_mem h1,h⟩
 have : xs.findIdx p = k:=by
  rw [List.findIdx_eq h1]
  refine ⟨h,fun j hj=>?_⟩
  rw [List.any_eq_false] at hI
  have:=hI xs[j] (by rw [List.mem_take_iff_getElem];exact ⟨j,by omega,rfl⟩)
  simpa using this
 simp [H0,ha,this]
theorem find_no {α : Type} {xs : List α} {p : α → Bool} {k : Nat} (hI : (xs.take k).any p = false) (h1 : xs.length ≤ k) : Value.int .i64 (-1) = .int .i64 (H0 xs p):=by
 rw [List.take_of_length_le h1] at hI;simp [H0,hI]
theorem any_find {α : Type} {xs : List α} {p : α → Bool} : Value.bool (decide (0 ≤ H0 xs p)) = .bool (xs.any p):=by
 unfold H0
 cases h : xs.any p <;> simp
def Xs (s : Stamp) : Bool:=Yw s.epoch 0 3 && Yw s.turn 0 6
def Yx (r : Record) : Bool:=(Yw r.op 0 7 && Xs r.stamp) && (Yw r.key 0 99 && Yw r.val 0 999)
def Y9 (g : Graph) (op : Int) : Bool:=Yw op 0 (((g.nodes.length : Nat) : Int) - 1)
def Xr (g : Graph) (r : Record) : Bool:=Yx r && Y9 g r.op
def Y2 (s : Stamp) : Stamp × Bool:=if (!(Xs s) || (s.turn == 6)) = true then (s,false) else (⟨s.epoch,s.turn + 1⟩,true)
theorem Tj {n lo hi : Int} : Yw n lo hi = true ↔ lo ≤ n ∧ n ≤ hi:=by simp [Yw]
theorem win_hi {s : Stamp} (h : Xs s = true) : 0 ≤ s.turn ∧ s.turn ≤ 6:=by
 simp only [Xs,Bool.and_eq_true,Tj] at h;omega
theorem nt_ge {s : Stamp} (h : (!(Xs s) || decide (6 ≤ s.turn)) = true) : (!(Xs s) || (s.turn == 6)) = true:=by
 cases hs : Xs s with
 | false=>rfl
 | true =>
  have:=win_hi hs
  simp [hs] at h ⊢;omega
theorem nt_lt {s : Stamp} (h : (!(Xs s) || decide (6 ≤ s.turn)) = false) : (!(Xs s) || (s.turn == 6)) = false:=by
 cases hs : Xs s with
 | false=>simp [hs] at h
 | true=>simp [hs] at h ⊢;omega
theorem op_yes {g : Graph} {r : Record} (h : (!(Yx r) || decide (((g.nodes.length : Nat) : Int) ≤ r.op)) = false) : Xr g r = true:=by
 simp only [Bool.or_eq_false_iff,Bool.not_eq_false',decide_eq_false_iff_not] at h
 have h1:=h.1
 simp only [Yx,Bool.and_eq_true,Tj] at h1
 simp only [Xr,h.1,Y9,Bool.true_and,Tj];omega
theorem op_no {g : Graph} {r : Record} (h : (!(Yx r) || decide (((g.nodes.length : Nat) : Int) ≤ r.op)) = true) : Xr g r = false:=by
 cases h1 : Yx r with
 | false=>simp [Xr,h1]
 | true =>
  simp [h1] at h
  simp only [Xr,h1,Y9,Bool.true_and,Yw,Bool.and_eq_false_iff,decide_eq_false_iff_not];omega
theorem bf {a : Bool} (h : a = true → False) : Value.bool false = .bool a:=by cases a <;> simp_all
theorem bt {a : Bool} (h : a = true) : Value.bool true = .bool a:=by rw [h]
def H8 (n : Nat) (P : Nat → Bool) : Bool:=(List.range n).all P
theorem Bb {n : Nat} {P : Nat → Bool} (h : H8 n P = true) (hp : P n = true) : H8 (n + 1) P = true:=by
 simp only [H8,List.range_succ,List.all_append] at *
 simp [h,hp]
theorem Ho {n j : Nat} {P : Nat → Bool} (h : H8 n P = true) (hj : j < n) : P j = true:=List.all_eq_true.1 h j (List.mem_range.2 hj)
theorem Cq {n m : Nat} {P : Nat → Bool} (h : H8 n P = true) (hm : m ≤ n) : H8 m P = true:=List.all_eq_true.2 fun j hj=>Ho h (by have:=List.mem_range.1 hj;omega)
theorem He {α : Type} {xs : List α} {p : α → Bool} {k : Nat} (hI : (xs.take k).all p = true) (h1 : xs.length ≤ k) : xs.all p = true:=by rwa [List.take_of_length_le h1] at hI
def inAt (xs : List Record) (j : Nat) : Bool :=
 !((((List.getD xs j default).op != 0) || ((List.getD xs j default).stamp.turn != 0)) || (decide (0 < ((j : Nat) : Int)) && decide ((List.getD xs j default).stamp.epoch < (List.getD xs (j - 1) default).stamp.epoch)))
theorem Bw {xs : List Record} {j : Nat} (h : j < xs.length) : inAt xs j = !(((xs[j].op != 0) || (xs[j].stamp.turn != 0)) || (decide (0 < ((j : Nat) : Int)) && decide (xs[j].stamp.epoch < (List.getD xs (j - 1) default).stamp.epoch))):=by
 simp only [inAt,Ki h]
def Ga (xs : List Done) (j : Nat) : Bool:=!(!(Yw (List.getD xs j default).epoch 0 3) || (xs.take j).any (fun d=>d.epoch == (List.getD xs j default).epoch))
theorem Gx {xs : List Done} {j : Nat} (h : j < xs.length) : Ga xs j = !(!(Yw xs[j].epoch 0 3) || (xs.take j).any (fun d=>d.epoch == xs[j].epoch)):=by
 simp only [Ga,Ki h]
def Xc (g : Graph) (x : Worker) : Bool :=
 x.queue.all (Xr g) && x.staged.all (Xr g) && x.inputs.all (Xr g) && (T5 x.cells).all Ko && H8 x.inputs.length (fun j=>inAt x.inputs j) &&
  (((x.sums.length : Nat) : Int) == 4) && (((x.black.length : Nat) : Int) == 4) && (((x.caps.length : Nat) : Int) == 4) && x.sums.all (Yw · (-1000000) 1000000) && H8 x.dones.length (fun j=>Ga x.dones j)
theorem wk_yes1 {g : Graph} {x : Worker} (h1 : (((!(x.queue.all (Xr g)) || !(x.staged.all (Xr g))) || !(x.inputs.all (Xr g))) || !((T5 x.cells).all Ko)) = false) (h2 : H8 x.inputs.length (fun j=>inAt x.inputs j) = true)
  (h3 : (((((x.sums.length : Nat) : Int) != 4) || (((x.black.length : Nat) : Int) != 4)) || (((x.caps.length : Nat) : Int) != 4)) = false) (h4 : x.sums.all (Yw · (-1000000) 1000000) = true) (h5 : H8 x.dones.length (fun j=>Ga x.dones j) = true) :
  Value.bool true = .bool (Xc g x):=by
 simp only [Bool.or_eq_false_iff,Bool.not_eq_false',bne_eq_false_iff_eq] at h1 h3
 obtain ⟨⟨⟨a1,a2⟩,a3⟩,a4⟩:=h1
 obtain ⟨⟨b1,b2⟩,b3⟩:=h3
 exact bt (by simp only [Xc,a1,a2,a3,a4,h2,b1,b2,b3,h4,h5];rfl)
section
variable {x y : Worker}
end
theorem wk_len {g : Graph} {x : Worker} (h : ((((((!(x.queue.all (Xr g)) || !(x.staged.all (Xr g))) || !(x.inputs.all (Xr g))) || !((T5 x.cells).all Ko)) || (((x.sums.length : Nat) : Int) != 4)) || (((x.black.length : Nat) : Int) != 4)) || (((x.caps.length : Nat) : Int) != 4)) = false) : x.sums.length = 4:=by
 simp at h;omega
theorem wk_yes2 {g : Graph} {x : Worker} (h : ((((((!(x.queue.all (Xr g)) || !(x.staged.all (Xr g))) || !(x.inputs.all (Xr g))) || !((T5 x.cells).all Ko)) || (((x.sums.length : Nat) : Int) != 4)) || (((x.black.length : Nat) : Int) != 4)) || (((x.caps.length : Nat) : Int) != 4)) = false) (h2 : H8 x.inputs.length (fun j=>inAt x.inputs j) = true)
  (h4 : x.sums.all (Yw · (-1000000) 1000000) = true) (h5 : H8 x.dones.length (fun j=>Ga x.dones j) = true) : Value.bool true = .bool (Xc g x):=by
 simp only [Bool.or_eq_false_iff,Bool.not_eq_false',bne_eq_false_iff_eq] at h
 obtain ⟨⟨⟨⟨⟨⟨a1,a2⟩,a3⟩,a4⟩,b1⟩,b2⟩,b3⟩:=h
 exact bt (by simp only [Xc,a1,a2,a3,a4,h2,b1,b2,b3,h4,h5];rfl)
section
variable {xs : List Done} {i j : Nat}
theorem done_s {h1 : i < xs.length} (hw : (!(Yw xs[i].epoch 0 3)) = false) (hJ : (xs.take j).any (fun d=>d.epoch == xs[i].epoch) = false) (hj : i ≤ j) : Ga xs i = true:=by
 rw [Gx h1,hw]
 have : (xs.take i).any (fun d=>d.epoch == xs[i].epoch) = false:=by
  rw [List.any_eq_false] at *
  intro d hd
  refine hJ d ?_
  rw [List.mem_take_iff_getElem] at *
  obtain ⟨q,hq,rfl⟩:=hd
  exact ⟨q,by omega,rfl⟩
 simp [this]
theorem done_n {h1 : i < xs.length} {h2 : j < xs.length} (h : Ga xs i = true) (hj : j < i) (he : (xs[j].epoch == xs[i].epoch) = true) : False:=by
 rw [Gx h1] at h
 have : (xs.take i).any (fun d=>d.epoch == xs[i].epoch) = true:=by
  rw [List.any_eq_true]
  exact ⟨xs[j],by rw [List.mem_take_iff_getElem];exact ⟨j,by omega,rfl⟩,he⟩
 simp [this] at h
end
theorem Vx {g : Graph} {op : Int} (h : Y9 g op = true) : 0 ≤ op ∧ op < ((g.nodes.length : Nat) : Int) ∧ Int.toNat op < g.nodes.length:=by
 simp only [Y9,Tj] at h;omega
theorem isN_w {n : Nat} (h : n ≤ maxLen) : IntKind.i64.wrap (((n : Nat) : Int) - 1) = ((n : Nat) : Int) - 1:=by
 unfold maxLen at h
 rw [Ub (by omega) (by omega)]
def Qr (g : Graph) (op : Int) : Node × Bool:=if Y9 g op = true then (List.getD g.nodes (Int.toNat op) default,true) else (⟨0,0,0,[]⟩,false)
theorem nodeOf_no {g : Graph} {op : Int} (h : Y9 g op = false) : Qr g op = (⟨0,0,0,[]⟩,false):=by simp [Qr,h]
theorem De {g : Graph} {op : Int} (h : 0 ≤ op ∧ op < ((g.nodes.length : Nat) : Int) ∧ Int.toNat op < g.nodes.length) : Qr g op = (g.nodes[Int.toNat op]'h.2.2,true):=by
 have : Y9 g op = true:=by simp only [Y9,Tj];omega
 simp [Qr,this,List.getD,h.2.2]
theorem Df {g : Graph} {op : Int} : (Qr g op).2 = Y9 g op:=by
 unfold Qr;cases h : Y9 g op <;> simp
theorem mem_cnt {α : Type} {f : α → Nat} : ∀ {xs : List α} {x : α},x ∈ xs → f x ≤ (xs.map f).sum
 | y :: ys,x,h=>by
  rcases List.mem_cons.1 h with rfl | h
  ·simp
  ·have:=mem_cnt (f:=f) h;simp;omega
theorem outs_le {g : Graph} {x : Node} (h : Xa g ≤ 1048576) (hx : x ∈ g.nodes) : x.outs.length ≤ 1048576:=by
 have:=mem_cnt (f:=Xx) hx
 simp only [Xa,X1] at h
 simp only [Xx] at this;omega
theorem or3 {a b c : Bool} (h : ((!a || !b) || !c) = false) : a = true ∧ b = true ∧ c = true:=by cases a <;> cases b <;> cases c <;> simp_all
def U0 (g : Graph) (r : Record) : Bool:=((((((Qr g r.op).2 && Ys g) && Yx r) && ((Qr g r.op).1.kind == 7)) && decide (0 < (((Qr g r.op).1.outs.length : Nat) : Int))) && !(Y2 r.stamp).2)
theorem capped_no {g : Graph} {r : Record} (h : U0 g r = true) (hc : ((!(Ys g) || !(Yx r)) || !(Y9 g r.op)) = true) : False:=by
 simp only [U0,Bool.and_eq_true,Df] at h
 obtain ⟨⟨⟨⟨⟨h1,h2⟩,h3⟩,_⟩,_⟩,_⟩:=h
 simp [h1,h2,h3] at hc
theorem capped_yes {g : Graph} {r : Record} (h : Ys g = true ∧ Yx r = true ∧ Y9 g r.op = true) (h1 : Int.toNat r.op < g.nodes.length) :
  U0 g r = (((g.nodes[Int.toNat r.op].kind == 7) && decide (0 < ((g.nodes[Int.toNat r.op].outs.length : Nat) : Int))) && !(Y2 r.stamp).2):=by
 have hn:=De (Vx h.2.2)
 simp only [U0,hn,h.1,h.2.1];rfl
def addOut (f : List Int) (k : Int) : List Int:=if k ∈ f then f else f ++ [k]
def addOuts (f outs : List Int) : List Int:=outs.foldl addOut f
def reachGo (g : Graph) : Nat → Nat → List Int → List Int
 | 0,_,f=>f
 | n + 1,i,f=>if i < f.length then reachGo g n (i + 1) (addOuts f (List.getD g.nodes (Int.toNat (List.getD f i default)) default).outs) else f
def reachL (g : Graph) (a : Int) : List Int:=reachGo g 10 0 (List.getD g.nodes (Int.toNat a) default).outs
def reaches (g : Graph) (a b : Int) : Bool:=(Ys g && Y9 g a) && decide (b ∈ reachL g a)
def GoodF (g : Graph) (f0 f : List Int) : Prop:=(∃ nw,f = f0 ++ nw ∧ nw.Nodup) ∧ ∀ x ∈ f,0 ≤ x ∧ x < ((g.nodes.length : Nat) : Int)
section
variable {g : Graph} {f0 f f2 outs : List Int} {i j n : Nat} {a b k : Int}
theorem gok_len (h : Ys g = true) : 1 ≤ g.nodes.length ∧ g.nodes.length ≤ 8:=by
 simp only [Ys,Ao,Bool.and_eq_true,Bool.not_eq_true',Bool.or_eq_false_iff,Bool.not_eq_false'] at h
 have:=Tj.1 h.1.1.1;omega
theorem gok_at (h : Ys g = true) (hi : i < g.nodes.length) : Ud g i g.nodes[i] = true:=by
 simp only [Ys,Bool.and_eq_true] at h
 have:=List.all_eq_true.1 h.2 i (List.mem_range.2 hi)
 rwa [Ki hi] at this
theorem Aj (h : Ys g = true) (hi : i < g.nodes.length) : (List.getD g.nodes i default).outs.length ≤ 2:=by
 have hn:=gok_at h hi
 simp only [Ud,atOk,Bool.and_eq_true,Bool.not_eq_true',Bool.or_eq_false_iff,Bool.not_eq_false'] at hn
 have h1:=hn.1.1
 simp only [Xb,Dd,Bool.and_eq_true,Bool.not_eq_true',Bool.or_eq_false_iff,decide_eq_false_iff_not] at h1
 rw [Ki hi];omega
end
def hasLoopM (g : Graph) : Bool:=!H8 g.nodes.length (fun j=>!reaches g ((j : Nat) : Int) ((j : Nat) : Int))
def numNd (k : Nat) (x : Node) : Nat:=k + 1 * x.outs.length
def markNd (k : Nat) (x : Node) : Node:=⟨x.kind,x.a,x.b,V2 1 An k x.outs.length⟩
def U4 (k : Nat) (x : Node) : Node:=⟨((k : Nat) : Int),((k + 1 : Nat) : Int),((k + 1 + 1 : Nat) : Int),V2 1 An (k + 1 + 1 + 1) x.outs.length⟩
def Kc (k : Nat) (x : Node) : Nat:=k + 1 + 1 + 1 + 1 * x.outs.length
def Xv {α : Type} (n : Nat → α → Nat) : Nat → List α → Nat
 | k,[]=>k
 | k,x :: xs=>Xv n (n k x) xs
def X0 {α : Type} (n : Nat → α → Nat) (m : Nat → α → α) : Nat → List α → List α
 | _,[]=>[]
 | k,x :: xs=>m k x :: X0 n m (n k x) xs
section
variable {α : Type} {n : Nat → α → Nat} {m : Nat → α → α} {cnt : α → Nat} {c : Nat}
theorem Ue : ∀ (k : Nat) (xs : List α),(X0 n m k xs).length = xs.length
 | _,[]=>rfl
 | k,x :: xs=>by simp [X0,Ue]
theorem D6 : ∀ (k : Nat) (xs : List α) (x : α),Xv n k (xs ++ [x]) = n (Xv n k xs) x
 | _,[],_=>rfl
 | k,y :: xs,x=>by simp only [List.cons_append,Xv];exact D6 _ xs x
theorem Dh : ∀ (k : Nat) (xs : List α) (x : α),X0 n m k (xs ++ [x]) = X0 n m k xs ++ [m (Xv n k xs) x]
 | _,[],_=>rfl
 | k,y :: xs,x=>by simp only [List.cons_append,X0,Xv,Dh _ xs x]
theorem Gi {k i : Nat} {xs : List α} (h : i < xs.length) : Xv n k (xs.take (i + 1)) = n (Xv n k (xs.take i)) xs[i]:=by
 rw [List.take_succ_eq_append_getElem h,D6]
theorem Tp {k i : Nat} {xs r : List α} (h : i < xs.length) : X0 n m k (xs.take (i + 1)) ++ r = X0 n m k (xs.take i) ++ m (Xv n k (xs.take i)) xs[i] :: r:=by
 rw [List.take_succ_eq_append_getElem h,Dh];simp
theorem Hw (h : ∀ k x,n k x ≤ k + c * (1 + cnt x)) : ∀ (k : Nat) (xs : List α),Xv n k xs ≤ k + c * X1 cnt xs
 | _,[]=>by simp [Xv]
 | k,x :: xs=>by
  have h1:=Hw h (n k x) xs
  have h2:=h k x
  simp only [Xv,X1,List.map_cons,List.sum_cons,List.length_cons,Nat.mul_add] at *;omega
theorem cntL_take {i : Nat} {xs : List α} : X1 cnt (xs.take i) ≤ X1 cnt xs:=by
 unfold X1
 induction xs generalizing i with
 | nil=>simp
 | cons x xs ih =>
  cases i with
  | zero=>simp
  | succ i=>have:=@ih i;simp only [List.take_succ_cons,List.length_cons,List.map_cons,List.sum_cons] at *;omega
theorem Ck {k i : Nat} {xs : List α} (h : ∀ k x,n k x ≤ k + c * (1 + cnt x)) (hi : i < xs.length) : n (Xv n k (xs.take i)) xs[i] ≤ k + c * X1 cnt xs:=by
 rw [← Gi (n:=n) hi]
 exact Nat.le_trans (Hw h k _) (Nat.add_le_add_left (Nat.mul_le_mul_left _ cntL_take) _)
theorem Gj (h : ∀ j k x,n j (m k x) = n j x) : ∀ (j k : Nat) (xs : List α),Xv n j (X0 n m k xs) = Xv n j xs
 | _,_,[]=>rfl
 | j,k,x :: xs=>by simp only [X0,Xv,h,Gj h _ _ xs]
theorem Tq (hn : ∀ j k x,n j (m k x) = n j x) (h : ∀ k x,m k (m k x) = m k x) : ∀ (k : Nat) (xs : List α),X0 n m k (X0 n m k xs) = X0 n m k xs
 | _,[]=>rfl
 | k,x :: xs=>by simp only [X0,h,hn,Tq hn h _ xs]
theorem Cp (h : ∀ k x,cnt (m k x) = cnt x) : ∀ (k : Nat) (xs : List α),X1 cnt (X0 n m k xs) = X1 cnt xs
 | _,[]=>rfl
 | k,x :: xs=>by
  have:=Cp h (n k x) xs
  simp only [X1,X0,List.length_cons,List.map_cons,List.sum_cons,h] at *;omega
theorem Di {k i : Nat} {xs : List α} (hm : xs = X0 n m k xs) (hi : i < xs.length) : xs[i] = m (Xv n k (xs.take i)) xs[i]:=by
 have h:=Tp (n:=n) (m:=m) (k:=k) (r:=X0 n m (Xv n k (xs.take (i + 1))) (xs.drop (i + 1))) hi
 have happ : ∀ (k : Nat) (a b : List α),X0 n m k (a ++ b) = X0 n m k a ++ X0 n m (Xv n k a) b:=by
  intro k a b
  induction a generalizing k with
  | nil=>rfl
  | cons x a ih=>simp only [List.cons_append,X0,Xv,ih]
 rw [← happ,List.take_append_drop,← hm] at h
 have hl : (X0 n m k (xs.take i)).length = i:=by rw [Ue];simp;omega
 have:=congrArg (fun l=>l[i]?) h
 simp only [List.getElem?_append_right (Nat.le_of_eq hl),hl,Nat.sub_self,List.getElem?_cons_zero] at this
 rw [List.getElem?_eq_getElem hi,Option.some.injEq] at this
 exact this
end
theorem Ak (k : Nat) (x : Node) : Kc k x ≤ k + 4 * (1 + Xx x):=by simp only [Kc,Xx];omega
def U7 (k : Nat) (x : Link) : Nat:=k + 1 + 5 * x.queue.length + 1 + 1 + 1 + 1
def U5 (k : Nat) (x : Link) : Link:=⟨((k : Nat) : Int),V2 5 Ky (k + 1) x.queue.length,((k + 1 + 5 * x.queue.length : Nat) : Int),((k + 1 + 5 * x.queue.length + 1 : Nat) : Int),((k + 1 + 5 * x.queue.length + 1 + 1 : Nat) : Int),((k + 1 + 5 * x.queue.length + 1 + 1 + 1 : Nat) : Int)⟩
theorem Al (k : Nat) (x : Link) : U7 k x ≤ k + 5 * (1 + Xl x):=by simp only [U7,Xl];omega
theorem Bv (k : Nat) (x : Worker) : V6 k x ≤ k + 5 * (1 + Yd x):=by simp only [V6,Yd];omega
def Vb (k : Nat) (x : Cluster) : Nat:=Xv U7 (Xv V6 (Xv Kc k x.graph.nodes) x.workers) x.links + 5 * x.tokens.length + 3 * x.news.length
def Uj (k : Nat) (x : Cluster) : Cluster :=
 ⟨⟨X0 Kc U4 k x.graph.nodes,x.graph.workers,x.graph.cap⟩,X0 V6 Hx (Xv Kc k x.graph.nodes) x.workers,X0 U7 U5 (Xv V6 (Xv Kc k x.graph.nodes) x.workers) x.links,
  V2 5 G6 (Xv U7 (Xv V6 (Xv Kc k x.graph.nodes) x.workers) x.links) x.tokens.length,V2 3 C8 (Xv U7 (Xv V6 (Xv Kc k x.graph.nodes) x.workers) x.links + 5 * x.tokens.length) x.news.length⟩
def outsTo (g : Graph) (k : Nat) : List Int:=((List.range k).filter (fun i=>(List.getD g.nodes i default).kind == 8)).map fun i=>((i : Nat) : Int)
def outOf (g : Graph) (x : Cell) : Bool:=Y9 g x.op && ((List.getD g.nodes (Int.toNat x.op) default).kind == 8)
def workerNew (xs : List Record) : Worker:=⟨[],[],xs,[],[0,0,0,0],[false,false,false,false],[false,false,false,false],[]⟩
def keptW (x : Worker) (r : Record) : Worker:=⟨x.queue ++ [r],x.staged,x.inputs,x.cells,x.sums,x.black,x.caps,x.dones⟩
def sentW (x : Worker) (e : Int) : Worker:=if 0 ≤ e ∧ e < ((x.sums.length : Nat) : Int) then ⟨x.queue,x.staged,x.inputs,x.cells,x.sums.set (Int.toNat e) (IntKind.i64.wrap (List.getD x.sums (Int.toNat e) default + 1)),x.black,x.caps,x.dones⟩ else x
def recvOk (x : Worker) (r : Record) : Prop:=0 ≤ r.stamp.epoch ∧ r.stamp.epoch < ((x.sums.length : Nat) : Int) ∧ r.stamp.epoch < ((x.black.length : Nat) : Int) ∧ Int.toNat r.stamp.epoch < x.sums.length ∧ Int.toNat r.stamp.epoch < x.black.length
instance (x : Worker) (r : Record) : Decidable (recvOk x r):=by unfold recvOk;infer_instance
def recvW (x : Worker) (r : Record) : Worker:=if recvOk x r then ⟨x.queue ++ [r],x.staged,x.inputs,x.cells,x.sums.set (Int.toNat r.stamp.epoch) (IntKind.i64.wrap (List.getD x.sums (Int.toNat r.stamp.epoch) default - 1)),x.black.set (Int.toNat r.stamp.epoch) true,x.caps,x.dones⟩ else keptW x r
section
variable {x y : Cluster}
end
def goN (xs : List Token) : Nat:=(xs.filter (fun t=>t.going)).length
def defS (e n : Int) (x : Worker) : Int:=if 0 ≤ e ∧ e < ((x.sums.length : Nat) : Int) then IntKind.i64.wrap (n + List.getD x.sums (Int.toNat e) default) else n
def defTo (c : Cluster) (e : Int) (k : Nat) : Int:=(c.workers.take k).foldl (defS e) 0
def X9 (l : Link) : Bool:=(((((((Yw l.cap 1 4 && Yw l.credits 0 l.cap) && Yw l.back 0 l.cap) && (IntKind.i64.wrap (IntKind.i64.wrap (l.credits + l.back) + ((l.queue.length : Nat) : Int)) == l.cap)) && Yw l.sent 0 1000000000) && (l.got == l.sent - ((l.queue.length : Nat) : Int))) && decide (0 ≤ l.got)) && l.queue.all Yx)
section
variable {x : Link}
theorem lk_i1 (h : X9 x = true) (hc : ((((!(Yw x.cap 1 4)) || (!(Yw x.credits 0 x.cap))) || (!(Yw x.back 0 x.cap))) || (IntKind.i64.wrap (IntKind.i64.wrap (x.credits + x.back) + ((x.queue.length : Nat) : Int)) != x.cap)) = true) : False:=by
 simp only [X9,Bool.and_eq_true,beq_iff_eq] at h
 obtain ⟨⟨⟨⟨⟨⟨⟨h1,h2⟩,h3⟩,h4⟩,h5⟩,h6⟩,h7⟩,h8⟩:=h
 simp [h1,h2,h3,h4] at hc
theorem lk_i2 (hr : rg x.got) (h : X9 x = true) (hc : (((!(Yw x.sent 0 1000000000)) || (decide (x.got < 0))) || (IntKind.i64.wrap (x.sent - x.got) != ((x.queue.length : Nat) : Int))) = true) : False:=by
 simp only [X9,Bool.and_eq_true,beq_iff_eq,decide_eq_true_eq] at h
 obtain ⟨⟨⟨⟨⟨⟨⟨h1,h2⟩,h3⟩,h4⟩,h5⟩,h6⟩,h7⟩,h8⟩:=h
 have hs:=Tj.1 h5
 unfold rg at hr
 rw [Ub (by omega) (by omega)] at hc
 simp [h5] at hc
 omega
theorem lk_i3 (hr : rg x.got) (hc : ((((!(Yw x.cap 1 4)) || (!(Yw x.credits 0 x.cap))) || (!(Yw x.back 0 x.cap))) || (IntKind.i64.wrap (IntKind.i64.wrap (x.credits + x.back) + ((x.queue.length : Nat) : Int)) != x.cap)) = false)
  (hc2 : (((!(Yw x.sent 0 1000000000)) || (decide (x.got < 0))) || (IntKind.i64.wrap (x.sent - x.got) != ((x.queue.length : Nat) : Int))) = false) : X9 x = x.queue.all Yx:=by
 simp only [Bool.or_eq_false_iff,Bool.not_eq_false',bne_eq_false_iff_eq,decide_eq_false_iff_not] at hc hc2
 obtain ⟨⟨⟨h1,h2⟩,h3⟩,h4⟩:=hc
 obtain ⟨⟨h5,h6⟩,h7⟩:=hc2
 have hs:=Tj.1 h5
 unfold rg at hr
 rw [Ub (by omega) (by omega)] at h7
 have h8 : (x.got == x.sent - ((x.queue.length : Nat) : Int)) = true:=by rw [beq_iff_eq];omega
 have h9 : decide (0 ≤ x.got) = true:=decide_eq_true (by omega)
 simp only [X9,h1,h2,h3,h4,h5,h8,h9];simp
theorem lk_s1 {k : Nat} (h1 : k < x.queue.length) (h : X9 x = true) (hc : (!(Yx x.queue[k])) = true) : False:=by
 simp only [X9,Bool.and_eq_true] at h
 have:=List.all_eq_true.1 h.2 _ (List.getElem_mem h1)
 simp [this] at hc
theorem lk_s2 (hm : x.queue.length ≤ maxLen) (ha : x.queue.all Yx = true) : X9 x = ((((((Yw x.cap 1 4 && Yw x.credits 0 x.cap) && Yw x.back 0 x.cap) && (IntKind.i64.wrap (IntKind.i64.wrap (x.credits + x.back) + ((x.queue.length : Nat) : Int)) == x.cap)) && Yw x.sent 0 1000000000) && (x.got == IntKind.i64.wrap (x.sent - ((x.queue.length : Nat) : Int)))) && decide (0 ≤ x.got)):=by
 unfold maxLen at hm
 cases h5 : Yw x.sent 0 1000000000 with
 | false=>simp [X9,h5]
 | true =>
  have hs:=Tj.1 h5
  rw [Ub (z:=x.sent - ((x.queue.length : Nat) : Int)) (by omega) (by omega)]
  simp only [X9,h5,ha,Bool.and_true]
end
def Bk (g : Graph) (k : Nat) (l : Link) : Bool:=((!(X9 l) || (l.cap != g.cap)) || !(l.queue.all (Xr g))) || ((IntKind.i64.wrap (Int.tdiv ((k : Nat) : Int) g.workers) == Int.tmod ((k : Nat) : Int) g.workers) && decide (0 < ((l.queue.length : Nat) : Int)))
def tkBad (g : Graph) (t : Token) : Bool:=(!(Yw t.place 0 (IntKind.i64.wrap (g.workers - 1))) || (!t.going && (t.place != 0))) || !(Yw t.sum (-1000000) 1000000)
def nwBad (g : Graph) (t : News) : Bool:=!(Yw t.dest 0 (IntKind.i64.wrap (g.workers - 1))) || !(Yw t.epoch 0 3)
def Tw (c : Cluster) : Bool:=((!(Ys c.graph) || (((c.workers.length : Nat) : Int) != c.graph.workers)) || (((c.links.length : Nat) : Int) != IntKind.i64.wrap (c.graph.workers * c.graph.workers))) || (((c.tokens.length : Nat) : Int) != 4)
def Ug (c : Cluster) : Bool:=!(Tw c) && c.workers.all (Xc c.graph) && H8 c.links.length (fun j=>!Bk c.graph j (List.getD c.links j default)) && c.tokens.all (fun t=>!tkBad c.graph t) && c.news.all (fun t=>!nwBad c.graph t)
theorem nb {b : Bool} (h : b = false) : (!b) = true:=by rw [h];rfl
section
variable {x : Cluster} {k : Nat}
theorem lk_at (h1 : k < x.links.length) (h : Bk x.graph k x.links[k] = false) : (fun j=>!Bk x.graph j (List.getD x.links j default)) k = true:=by
 show (!Bk x.graph k (List.getD x.links k default)) = true
 rw [Ki h1,h];rfl
theorem cl_g (h : Tw x = false) : 1 ≤ x.graph.workers ∧ x.graph.workers ≤ 4:=by
 simp only [Tw,Bool.or_eq_false_iff,Bool.not_eq_false'] at h
 have h1:=h.1.1.1
 simp only [Ys,Ao,Bool.and_eq_true,Bool.not_eq_true',Bool.or_eq_false_iff,Bool.not_eq_false'] at h1
 exact Tj.1 h1.1.1.2
theorem cl_w (h : Tw x = false) : ((x.workers.length : Nat) : Int) = x.graph.workers:=by
 simp only [Tw,Bool.or_eq_false_iff,bne_eq_false_iff_eq] at h
 exact h.1.1.2
theorem cl_0 (h : Tw x = true) : Value.bool false = .bool (Ug x):=by simp only [Ug,h];rfl
theorem cl_1 (h1 : k < x.workers.length) (h : Xc x.graph x.workers[k] = false) : Value.bool false = .bool (Ug x):=bf fun hq=>by
 simp only [Ug,Bool.and_eq_true] at hq
 have:=List.all_eq_true.1 hq.1.1.1.2 _ (List.getElem_mem h1)
 rw [h] at this;cases this
theorem cl_2 (h1 : k < x.links.length) (h : Bk x.graph k x.links[k] = true) : Value.bool false = .bool (Ug x):=bf fun hq=>by
 simp only [Ug,Bool.and_eq_true] at hq
 have:=Ho hq.1.1.2 h1
 rw [Ki h1,h] at this;cases this
theorem cl_3 (h1 : k < x.tokens.length) (h : tkBad x.graph x.tokens[k] = true) : Value.bool false = .bool (Ug x):=bf fun hq=>by
 simp only [Ug,Bool.and_eq_true] at hq
 have:=List.all_eq_true.1 hq.1.2 _ (List.getElem_mem h1)
 rw [h] at this;cases this
theorem cl_4 (h1 : k < x.news.length) (h : nwBad x.graph x.news[k] = true) : Value.bool false = .bool (Ug x):=bf fun hq=>by
 simp only [Ug,Bool.and_eq_true] at hq
 have:=List.all_eq_true.1 hq.2 _ (List.getElem_mem h1)
 rw [h] at this;cases this
theorem cl_5 (h0 : Tw x = false) (h1 : x.workers.all (Xc x.graph) = true) (h2 : H8 x.links.length (fun j=>!Bk x.graph j (List.getD x.links j default)) = true) (h3 : x.tokens.all (fun t=>!tkBad x.graph t) = true) (h4 : x.news.all (fun t=>!nwBad x.graph t) = true) : Value.bool true = .bool (Ug x) :=
 bt (by simp only [Ug,h0,h1,h2,h3,h4];rfl)
end
section
variable {α : Type} {xs ys : List α} {p : α → Bool} {i j : Nat}
theorem find_some (h : ¬ H0 xs p = -1) : xs.any p = true:=by
 unfold H0 at h
 split at h
 ·assumption
 ·exact absurd rfl h
theorem find_eq (h : xs.any p = true) : H0 xs p = ((xs.findIdx p : Nat) : Int):=by rw [H0,if_pos h]
theorem find_lt (h : xs.any p = true) : xs.findIdx p < xs.length:=by
 rw [List.any_eq_true] at h
 exact List.findIdx_lt_length_of_exists h
theorem del_none (h : H0 xs p = -1) : xs.filter (fun y=>!(p y)) = xs:=by
 unfold H0 at h
 split at h
 ·omega
 ·rename_i hn
  rw [List.filter_eq_self]
  intro y hy
  have : p y = false:=by
   cases hq : p y with
   | false=>rfl
   | true=>exact absurd (List.any_eq_true.2 ⟨y,hy,hq⟩) hn
  rw [this];rfl
theorem del_start (h : xs.any p = true) : xs.take (xs.findIdx p) = (xs.take (xs.findIdx p + 1)).filter (fun y=>!(p y)):=by
 have hl:=find_lt h
 rw [List.take_succ_eq_append_getElem hl,List.filter_append]
 have h1 : p xs[xs.findIdx p] = true:=List.findIdx_getElem
 have h2 : (xs.take (xs.findIdx p)).filter (fun y=>!(p y)) = xs.take (xs.findIdx p):=by
  rw [List.filter_eq_self]
  intro y hy
  rw [List.mem_take_iff_getElem] at hy
  obtain ⟨q,hq,rfl⟩:=hy
  have:=List.not_of_lt_findIdx (p:=p) (xs:=xs) (i:=q) (by omega)
  simpa using this
 rw [h2];simp [h1]
theorem del_same (hD : ys.drop j = xs.drop j) (hyl : ys.length = xs.length) (h1 : j < ys.length) : ys[j] = xs[j]'(by omega):=by
 have:=congrArg (fun l=>l[0]?) hD
 simp only [List.getElem?_drop,Nat.add_zero] at this
 rw [List.getElem?_eq_getElem h1,List.getElem?_eq_getElem (by omega)] at this
 exact Option.some.inj this
theorem del_no1 (hI : ys.take i = (xs.take j).filter (fun y=>!(p y))) (hD : ys.drop j = xs.drop j) (hyl : ys.length = xs.length) (_ : i < j) (h1 : j < ys.length) (hc : p ys[j] = true) : ys.take i = (xs.take (j + 1)).filter (fun y=>!(p y)):=by
 rw [List.take_succ_eq_append_getElem (by omega),List.filter_append,← hI,← del_same hD hyl h1];simp [hc]
theorem del_no2 (hD : ys.drop j = xs.drop j) (_ : ys.length = xs.length) (_ : i < j) : ys.drop (j + 1) = xs.drop (j + 1):=by
 rw [← List.drop_drop,← List.drop_drop,hD]
theorem del_yes1 (hI : ys.take i = (xs.take j).filter (fun y=>!(p y))) (hD : ys.drop j = xs.drop j) (hyl : ys.length = xs.length) (hij : i < j) (h1 : j < ys.length) (hc : p ys[j] = false) : (ys.set i ys[j]).take (i + 1) = (xs.take (j + 1)).filter (fun y=>!(p y)):=by
 rw [List.take_succ_eq_append_getElem (l:=xs) (by omega),List.filter_append,← hI,← del_same hD hyl h1]
 rw [List.take_succ_eq_append_getElem (by simp;omega),List.take_set_of_le (Nat.le_refl _)]
 simp [hc]
theorem del_yes2 (hD : ys.drop j = xs.drop j) (hyl : ys.length = xs.length) (hij : i < j) {y : α} : (ys.set i y).drop (j + 1) = xs.drop (j + 1):=by
 rw [List.drop_set_of_lt (by omega)];exact del_no2 hD hyl hij
theorem del_end (hI : ys.take i = (xs.take j).filter (fun y=>!(p y))) (h : xs.length ≤ j) : ys.take i = xs.filter (fun y=>!(p y)):=by rw [hI,List.take_of_length_le h]
end
def Bg (x y : Cell) : Bool:=decide (Ka y x < 0)
def putAt (xs : List Cell) (x : Cell) : Nat:=xs.findIdx (fun y=>!(Bg x y))
def C2 (xs : List Cell) (x : Cell) : List Cell:=if x ∈ xs then xs else D3 xs (putAt xs x) x
section
variable {xs : List Cell} {x : Cell} {k : Nat}
theorem B9 (h : decide (x ∈ xs) = true) : C2 xs x = xs:=by rw [C2,if_pos (of_decide_eq_true h)]
theorem put_lt (h : (decide (((k : Nat) : Int) < ((xs.length : Nat) : Int)) && decide (Ka (List.getD xs k default) x < 0)) = true) : k < xs.length:=by
 have:=of_decide_eq_true (Bool.and_eq_true _ _ ▸ h).1
 omega
theorem put_step (hI : (xs.take k).all (Bg x) = true) (h : (decide (((k : Nat) : Int) < ((xs.length : Nat) : Int)) && decide (Ka (List.getD xs k default) x < 0)) = true) : (xs.take (k + 1)).all (Bg x) = true:=by
 have hk:=put_lt h
 refine Kf hI hk ?_
 have:=(Bool.and_eq_true _ _ ▸ h).2
 rw [Ki hk] at this
 exact this
theorem put_at (hI : (xs.take k).all (Bg x) = true) (hk : k ≤ xs.length) (h : (decide (((k : Nat) : Int) < ((xs.length : Nat) : Int)) && decide (Ka (List.getD xs k default) x < 0)) = false) : putAt xs x = k:=by
 have hlt : ∀ j,j < k → ∀ hj : j < xs.length,Bg x xs[j] = true:=fun j h1 hj=>List.all_eq_true.1 hI _ (List.mem_take_iff_getElem.2 ⟨j,by omega,rfl⟩)
 unfold putAt
 by_cases hkl : k < xs.length
 ·rw [List.findIdx_eq hkl]
  refine ⟨?_,fun j hj=>by rw [hlt j hj (by omega)];rfl⟩
  simp only [show decide (((k : Nat) : Int) < ((xs.length : Nat) : Int)) = true from decide_eq_true (by omega),Bool.true_and] at h
  rw [Ki hkl] at h
  show (!(decide (Ka xs[k] x < 0))) = true
  rw [h];rfl
 ·obtain rfl : k = xs.length:=by omega
  rw [List.findIdx_eq_length_of_false]
  intro y hy
  obtain ⟨j,hj,rfl⟩:=List.getElem_of_mem hy
  rw [hlt j hj hj];rfl
theorem putM_no (hn : decide (x ∈ xs) = false) (hI : (xs.take k).all (Bg x) = true) (hk : k ≤ xs.length) (h : (decide (((k : Nat) : Int) < ((xs.length : Nat) : Int)) && decide (Ka (List.getD xs k default) x < 0)) = false) : C2 xs x = D3 xs k x:=by
 rw [C2,if_neg (of_decide_eq_false hn),put_at hI hk h]
end
theorem putM_len (xs : List Cell) (x : Cell) : (C2 xs x).length ≤ xs.length + 1:=by
 unfold C2
 split
 ·omega
 ·simp [D3];omega
def X3 (xs : List Cell) (x : Cell) : List Cell × Bool :=
 if ((Y4 xs x.op x.epoch x.key).2 && decide ((Y4 xs x.op x.epoch x.key).1 ≤ x.val)) = true then (xs,false) else (C2 (xs.filter (fun y=>!(K6 x y))) x,true)
def X4 (kind : Int) (xs : List Cell) (x : Cell) : List Cell × Bool :=
 if (kind == 5) = true ∨ (kind == 8) = true then X3 xs x else if (kind == 6) = true then (C2 xs x,!decide (x ∈ xs)) else (xs,true)
section
variable {kind : Int} {xs : List Cell} {x y : Cell}
theorem Gy (h : ((Y4 xs x.op x.epoch x.key).2 && decide ((Y4 xs x.op x.epoch x.key).1 ≤ x.val)) = true) : X3 xs x = (xs,false):=by rw [X3,if_pos h]
theorem Tx (h : ((Y4 xs x.op x.epoch x.key).2 && decide ((Y4 xs x.op x.epoch x.key).1 ≤ x.val)) = false) : X3 xs x = (C2 (xs.filter (fun y=>!(K6 x y))) x,true):=by rw [X3,if_neg (by rw [h];simp)]
theorem Hf (h : (kind == 5) = true ∨ (kind == 8) = true) : X4 kind xs x = X3 xs x:=by rw [X4,if_pos h]
theorem six_not (h : (kind == 6) = true) : ¬ ((kind == 5) = true ∨ (kind == 8) = true):=by
 simp only [beq_iff_eq] at *;omega
theorem A3 (h : (kind == 6) = true) : X4 kind xs x = (C2 xs x,!decide (x ∈ xs)):=by rw [X4,if_neg (six_not h),if_pos h]
theorem recallM_h (h : (kind == 6) = true) (hm : decide (x ∈ xs) = true) : X4 kind xs x = (xs,false):=by rw [A3 h,B9 hm,hm];rfl
theorem recallM_i (h : (kind == 6) = true) (hm : decide (x ∈ xs) = false) : X4 kind xs x = (C2 xs x,true):=by rw [A3 h,hm];rfl
theorem A2 (h5 : (kind == 5) = false) (h8 : (kind == 8) = false) (h6 : (kind == 6) = false) : X4 kind xs x = (xs,true):=by
 rw [X4,if_neg (by simp [h5,h8]),if_neg (by simp [h6])]
theorem Bo : (X3 xs x).1.length ≤ xs.length + 1:=by
 unfold X3
 split
 ·simp
 ·exact Nat.le_trans (putM_len _ _) (by have:=List.length_filter_le (fun y=>!(K6 x y)) xs;omega)
theorem recallM_len (kind : Int) (xs : List Cell) (x : Cell) : (X4 kind xs x).1.length ≤ xs.length + 1:=by
 unfold X4
 split
 ·exact Bo
 ·split
  ·exact putM_len _ _
  ·simp
theorem ns_eq : (((y.op != x.op) || (y.epoch != x.epoch)) || (y.key != x.key)) = !(K6 x y):=by
 unfold K6
 rw [Bool.eq_iff_iff]
 simp [bne,Bool.not_and]
 constructor <;> intro h <;> omega
theorem ns_yes (h : (((y.op != x.op) || (y.epoch != x.epoch)) || (y.key != x.key)) = true) : (fun y=>!(K6 x y)) y = true:=by rw [ns_eq] at h;exact h
theorem ns_no (h : (((y.op != x.op) || (y.epoch != x.epoch)) || (y.key != x.key)) = false) : (fun y=>!(K6 x y)) y = false:=by rw [ns_eq] at h;exact h
end
def Qq (x : Node) (a b : Int) : Int × Int × Bool :=
 if (!(Xb x) || !(Yw a 0 99 && Yw b 0 999)) = true then (a,b,false)
 else if (x.kind == 2) = true then (a,(if IntKind.i64.wrap (b + x.a) < 999 then IntKind.i64.wrap (b + x.a) else 999),true)
 else if (x.kind == 4) = true then (Int.tmod (IntKind.i64.wrap (a + x.a)) 100,b,true)
 else if (x.kind == 3) = true then (a,b,Int.tmod a x.a == x.b)
 else (a,b,x.kind != 8)
section
variable {x : Node} {a b : Int}
theorem ch_0 (h : (!(Xb x) || !(Yw a 0 99 && Yw b 0 999)) = true) : Qq x a b = (a,b,false):=by rw [Qq,if_pos h]
theorem D1 {p : Bool} (h : p = false) : ¬ p = true:=by rw [h];simp
theorem ch_2 (h : (!(Xb x) || !(Yw a 0 99 && Yw b 0 999)) = false) (h2 : (x.kind == 2) = true) : Qq x a b = (a,(if IntKind.i64.wrap (b + x.a) < 999 then IntKind.i64.wrap (b + x.a) else 999),true):=by rw [Qq,if_neg (D1 h),if_pos h2]
theorem kind_n {n m : Int} (h : (x.kind == n) = true) (hn : n ≠ m) : ¬ (x.kind == m) = true:=by simp only [beq_iff_eq] at *;omega
theorem ch_4 (h : (!(Xb x) || !(Yw a 0 99 && Yw b 0 999)) = false) (h4 : (x.kind == 4) = true) : Qq x a b = (Int.tmod (IntKind.i64.wrap (a + x.a)) 100,b,true):=by
 rw [Qq,if_neg (D1 h),if_neg (kind_n h4 (by decide)),if_pos h4]
theorem ch_3 (h : (!(Xb x) || !(Yw a 0 99 && Yw b 0 999)) = false) (h3 : (x.kind == 3) = true) : Qq x a b = (a,b,Int.tmod a x.a == x.b):=by
 rw [Qq,if_neg (D1 h),if_neg (kind_n h3 (by decide)),if_neg (kind_n h3 (by decide)),if_pos h3]
theorem ch_o (h : (!(Xb x) || !(Yw a 0 99 && Yw b 0 999)) = false) (h2 : (x.kind == 2) = false) (h4 : (x.kind == 4) = false) (h3 : (x.kind == 3) = false) : Qq x a b = (a,b,x.kind != 8):=by
 rw [Qq,if_neg (D1 h),if_neg (D1 h2),if_neg (D1 h4),if_neg (D1 h3)]
theorem ch_s (h : ((!(Xb x) || !(Yw a 0 99)) || !(Yw b 0 999)) = false) : (!(Xb x) || !(Yw a 0 99 && Yw b 0 999)) = false:=by
 revert h;cases Xb x <;> cases Yw a 0 99 <;> cases Yw b 0 999 <;> simp
theorem ch_st (h : ((!(Xb x) || !(Yw a 0 99)) || !(Yw b 0 999)) = true) : (!(Xb x) || !(Yw a 0 99 && Yw b 0 999)) = true:=by
 revert h;cases Xb x <;> cases Yw a 0 99 <;> cases Yw b 0 999 <;> simp
theorem ch_ok (h : (!(Xb x) || !(Yw a 0 99 && Yw b 0 999)) = false) : Xb x = true:=by
 simpa using (Bool.or_eq_false_iff.1 h).1
theorem node_a3 (h : Xb x = true) (h3 : (x.kind == 3) = true) : 1 ≤ x.a ∧ x.a ≤ 10:=by
 simp only [Xb,Bool.and_eq_true] at h
 have:=h.1.1
 rw [node_3 h3,Bool.and_eq_true] at this
 exact Tj.1 this.1
theorem min_999 {n : Int} : (if n < 999 then n else 999) = (if 999 < n then 999 else n):=by split <;> split <;> omega
end
def A9 (g : Graph) (x : Cell) : Bool:=((!(Ys g) || !(Y9 g x.op)) || !(Yw x.epoch 0 3)) || !(Yw x.key 0 99 && Yw x.val 0 999)
def impCh (g : Graph) (x : Cell) : Int × Int × Bool:=Qq (List.getD g.nodes (Int.toNat x.op) default) x.key x.val
def impTo (g : Graph) (x : Cell) (k : Nat) : List Cell:=((List.getD g.nodes (Int.toNat x.op) default).outs.take k).map fun n=>⟨n,x.epoch,(impCh g x).1,(impCh g x).2.1⟩
def K7 (g : Graph) (best : List Cell) (x : Cell) : List Cell × List Cell :=
 if A9 g x = true then (best,[]) else if (!((X3 best x).2) || !((impCh g x).2.2)) = true then ((X3 best x).1,[]) else ((X3 best x).1,impTo g x (List.getD g.nodes (Int.toNat x.op) default).outs.length)
section
variable {g : Graph} {xs : List Cell} {x : Cell} {k : Nat}
theorem imp_of (h : A9 g x = false) : Ys g = true ∧ Y9 g x.op = true:=by
 simp only [A9,Bool.or_eq_false_iff,Bool.not_eq_false'] at h
 exact h.1.1
theorem imp_0 (h : A9 g x = true) : K7 g xs x = (xs,[]):=by rw [K7,if_pos h]
theorem impTo_len (g : Graph) (x : Cell) (k : Nat) : (impTo g x k).length ≤ k:=by simp only [impTo,List.length_map,List.length_take];omega
theorem improve_len1 : (K7 g xs x).1.length ≤ xs.length + 1:=by
 unfold K7
 split
 ·simp
 ·split <;> exact Bo
theorem improve_len2 : (K7 g xs x).2.length ≤ 2:=by
 unfold K7
 split
 ·simp
 ·rename_i h
  split
  ·simp
  ·have hq:=imp_of (Bool.eq_false_iff.2 h)
   have:=Aj (i:=Int.toNat x.op) hq.1 (Vx hq.2).2.2
   exact Nat.le_trans (impTo_len _ _ _) this
end
section
variable {g : Graph} {xs : List Cell} {x : Cell} {k : Nat}
theorem nodeOf_1 {op : Int} (h : Y9 g op = true) : (Qr g op).1 = List.getD g.nodes (Int.toNat op) default:=by rw [Qr,if_pos h]
theorem better_no (h : (X3 xs x).2 = false) : (X3 xs x).1 = xs:=by
 unfold X3 at *
 split at h
 ·rename_i hq;rw [if_pos hq]
 ·cases h
theorem not_t {p : Bool} (h : (!p) = true) : p = false:=by simpa using h
theorem not_f {p : Bool} (h : (!p) = false) : p = true:=by simpa using h
def icP (g : Graph) (xs : List Cell) (x : Cell) : Bool:=((K7 g [] x).2).all (nwP xs)
def isClosedM (g : Graph) (xs : List Cell) : Bool:=Ys g && xs.all (icP g xs)
end
def unstM (x : Worker) : Worker × Record × Bool:=if x.staged.length = 0 then (x,⟨0,⟨0,0⟩,0,0⟩,false) else (⟨x.queue,x.staged.drop 1,x.inputs,x.cells,x.sums,x.black,x.caps,x.dones⟩,List.getD x.staged 0 default,true)
def takeBad (g : Graph) (x : Worker) : Bool:=((((!(Ys g) || !(Xc g x)) || (decide (0 < ((x.staged.length : Nat) : Int)))) || (decide (0 < ((x.queue.length : Nat) : Int)))) || (((x.inputs.length : Nat) : Int) == 0))
def takeM (g : Graph) (x : Worker) : Worker × Bool:=if takeBad g x = true then (x,false) else (⟨x.queue ++ [List.getD x.inputs 0 default],x.staged,x.inputs.drop 1,x.cells,x.sums,x.black,x.caps,x.dones⟩,true)
section
variable {g : Graph} {x : Worker}
end
def T8 (g : Graph) (r : Record) : Bool:=(!(Ys g) || !(Yx r)) || !(Y9 g r.op)
def U9 (g : Graph) (r : Record) : Node:=List.getD g.nodes (Int.toNat r.op) default
def stCh (g : Graph) (r : Record) : Int × Int × Bool:=Qq (U9 g r) r.key r.val
def stRec (g : Graph) (cs : List Cell) (r : Record) : List Cell × Bool:=X4 (U9 g r).kind cs ⟨r.op,r.stamp.epoch,r.key,r.val⟩
def stTo (g : Graph) (r : Record) (s : Stamp) (k : Nat) : List Record:=((U9 g r).outs.take k).map fun n=>⟨n,s,(stCh g r).1,(stCh g r).2.1⟩
def Vp (g : Graph) (r : Record) : Stamp × Bool:=if ((U9 g r).kind == 7) = true then Y2 r.stamp else (r.stamp,true)
def Xw (g : Graph) (cs : List Cell) (r : Record) : List Cell × List Record × Bool :=
 if T8 g r = true then (cs,[],false)
 else if (!((stCh g r).2.2) && ((U9 g r).kind != 8)) = true then (cs,[],true)
 else if (!((stRec g cs r).2)) = true then ((stRec g cs r).1,[],true)
 else ((stRec g cs r).1,if (Vp g r).2 = true then stTo g r (Vp g r).1 (U9 g r).outs.length else [],true)
def V4 (g : Graph) (r : Record) (k : Nat) : List Record:=if (Vp g r).2 = true then stTo g r (Vp g r).1 k else []
section
variable {g : Graph} {cs : List Cell} {r : Record} {x : Node} {k : Nat}
theorem st_of (h : T8 g r = false) : Ys g = true ∧ Y9 g r.op = true:=by
 simp only [T8,Bool.or_eq_false_iff,Bool.not_eq_false'] at h
 exact ⟨h.1.1,h.2⟩
theorem st_0 (h : T8 g r = true) : Xw g cs r = (cs,[],false):=by rw [Xw,if_pos h]
theorem st_1 (h : T8 g r = false) (hx : x = U9 g r) (hc : (!((Qq x r.key r.val).2.2) && (x.kind != 8)) = true) : Xw g cs r = (cs,[],true):=by
 subst hx
 have hc' : (!((stCh g r).2.2) && ((U9 g r).kind != 8)) = true:=hc
 rw [Xw,if_neg (D1 h),if_pos hc']
theorem st_2 (h : T8 g r = false) (hx : x = U9 g r) (hc : (!((Qq x r.key r.val).2.2) && (x.kind != 8)) = false) (hq : (!((X4 x.kind cs ⟨r.op,r.stamp.epoch,r.key,r.val⟩).2)) = true) : Xw g cs r = ((X4 x.kind cs ⟨r.op,r.stamp.epoch,r.key,r.val⟩).1,[],true):=by
 subst hx
 have hc' : (!((stCh g r).2.2) && ((U9 g r).kind != 8)) = false:=hc
 have hq' : (!((stRec g cs r).2)) = true:=hq
 rw [Xw,if_neg (D1 h),if_neg (D1 hc'),if_pos hq'];rfl
theorem st_3 (h : T8 g r = false) (hx : x = U9 g r) (hc : (!((Qq x r.key r.val).2.2) && (x.kind != 8)) = false) (hq : (!((X4 x.kind cs ⟨r.op,r.stamp.epoch,r.key,r.val⟩).2)) = false) : Xw g cs r = ((X4 x.kind cs ⟨r.op,r.stamp.epoch,r.key,r.val⟩).1,V4 g r x.outs.length,true):=by
 subst hx
 have hc' : (!((stCh g r).2.2) && ((U9 g r).kind != 8)) = false:=hc
 have hq' : (!((stRec g cs r).2)) = false:=hq
 rw [Xw,if_neg (D1 h),if_neg (D1 hc'),if_neg (D1 hq')];rfl
theorem stamp_7 (hx : x = U9 g r) (h : (x.kind == 7) = true) : Vp g r = Y2 r.stamp:=by subst hx;rw [Vp,if_pos h]
theorem stamp_o (hx : x = U9 g r) (h : (x.kind == 7) = false) : Vp g r = (r.stamp,true):=by subst hx;rw [Vp,if_neg (D1 h)]
theorem out_zero : (V4 g r 0).flatMap Enc.enc = []:=by unfold V4;split <;> simp [stTo]
theorem Tc {s : Stamp} (hs : (Vp g r).1 = s) (hok : (Vp g r).2 = true) (hx : x = U9 g r) (hk : k < x.outs.length) : (V4 g r k).flatMap Enc.enc ++ Enc.enc (⟨x.outs[k],s,(Qq x r.key r.val).1,(Qq x r.key r.val).2.1⟩ : Record) = (V4 g r (k + 1)).flatMap Enc.enc:=by
 subst hx hs
 simp only [V4,if_pos hok,stTo,stCh]
 rw [List.take_succ_eq_append_getElem hk,List.map_append,List.flatMap_append];simp
theorem out_skip (hok : (Vp g r).2 = false) : (V4 g r k).flatMap Enc.enc = (V4 g r (k + 1)).flatMap Enc.enc:=by
 unfold V4;rw [if_neg (D1 hok),if_neg (D1 hok)]
theorem out_no (hok : (Vp g r).2 = false) : V4 g r k = []:=by unfold V4;rw [if_neg (D1 hok)]
theorem Hv (g : Graph) (r : Record) (k : Nat) : (V4 g r k).length ≤ k:=by
 unfold V4
 split
 ·simp only [stTo,List.length_map,List.length_take];omega
 ·simp
theorem A4 (h : ((x.kind == 5) || (x.kind == 6) || (x.kind == 8)) = false) (c : Cell) : X4 x.kind cs c = (cs,true):=by
 simp only [Bool.or_eq_false_iff] at h
 exact A2 h.1.1 h.2 h.1.2
theorem step_len1 : (Xw g cs r).1.length ≤ cs.length + 1:=by
 unfold Xw
 split
 ·simp
 ·split
  ·simp
  ·split <;> exact recallM_len _ _ _
theorem step_len2 : (Xw g cs r).2.1.length ≤ 2:=by
 unfold Xw
 split
 ·simp
 ·rename_i h
  have hq:=st_of (Bool.eq_false_iff.2 h)
  have:=Aj (i:=Int.toNat r.op) hq.1 (Vx hq.2).2.2
  split
  ·simp
  ·split
   ·simp
   ·exact Nat.le_trans (Hv g r _) this
end
section
variable {g : Graph} {cs : List Cell} {r : Record}
theorem st_sp : ((!((Qr g r.op).2) || !(Ys g)) || !(Yx r)) = T8 g r:=by
 rw [Df,T8]
 cases Ys g <;> cases Y9 g r.op <;> cases Yx r <;> rfl
theorem st_spt (h : ((!((Qr g r.op).2) || !(Ys g)) || !(Yx r)) = true) : T8 g r = true:=by rw [st_sp] at h;exact h
theorem st_spf (h : ((!((Qr g r.op).2) || !(Ys g)) || !(Yx r)) = false) : T8 g r = false:=by rw [st_sp] at h;exact h
end
def G4 (g : Graph) (x : Worker) : Bool:=(((!(Ys g) || !(Xc g x)) || (decide (0 < ((x.staged.length : Nat) : Int)))) || (((x.queue.length : Nat) : Int) == 0))
def Hs (x : Worker) : Record:=List.getD x.queue 0 default
def V3 (g : Graph) (x : Worker) : Worker × Bool:=if G4 g x = true then (x,false) else
 (⟨x.queue.drop 1,(Xw g x.cells (Hs x)).2.1,x.inputs,(Xw g x.cells (Hs x)).1,x.sums,x.black,if U0 g (Hs x) = true then x.caps.set (Int.toNat (Hs x).stamp.epoch) true else x.caps,x.dones⟩,true)
section
variable {g : Graph} {x : Worker}
theorem work_no (h : G4 g x = true) : V3 g x = (x,false):=by rw [V3,if_pos h]
theorem work_lt (h : G4 g x = false) : 0 < x.queue.length:=by
 have h1:=(Bool.or_eq_false_iff.1 h).2
 have h0 : ((x.queue.length : Nat) : Int) ≠ 0:=fun e=>by rw [e] at h1;cases h1
 omega
theorem work_c (h : G4 g x = false) (hl : 0 < x.queue.length) (hc : U0 g x.queue[0] = true) : V3 g x = (⟨x.queue.drop 1,(Xw g x.cells x.queue[0]).2.1,x.inputs,(Xw g x.cells x.queue[0]).1,x.sums,x.black,x.caps.set (Int.toNat x.queue[0].stamp.epoch) true,x.dones⟩,true):=by
 have hr : Hs x = x.queue[0]:=Ki hl
 rw [V3,if_neg (D1 h),hr,if_pos hc]
theorem work_n (h : G4 g x = false) (hl : 0 < x.queue.length) (hc : U0 g x.queue[0] = false) : V3 g x = (⟨x.queue.drop 1,(Xw g x.cells x.queue[0]).2.1,x.inputs,(Xw g x.cells x.queue[0]).1,x.sums,x.black,x.caps,x.dones⟩,true):=by
 have hr : Hs x = x.queue[0]:=Ki hl
 rw [V3,if_neg (D1 h),hr,if_neg (D1 hc)]
theorem work_cap (h : G4 g x = false) (hl : 0 < x.queue.length) (hc : U0 g x.queue[0] = true) : 0 ≤ x.queue[0].stamp.epoch ∧ Int.toNat x.queue[0].stamp.epoch < x.caps.length:=by
 simp only [G4,Bool.or_eq_false_iff,Bool.not_eq_false'] at h
 have hw:=h.1.1.2
 simp only [Xc,Bool.and_eq_true,beq_iff_eq] at hw
 have h8:=hw.1.1.2
 simp only [U0,Bool.and_eq_true] at hc
 have hr:=hc.1.1.1.2
 simp only [Yx,Xs,Bool.and_eq_true,Tj] at hr
 omega
theorem cnt_work : Yd (V3 g x).1 ≤ Yd x + 3:=by
 unfold V3
 split
 ·exact Nat.le_add_right _ _
 ·have h1:=@step_len1 g x.cells (Hs x)
  have h2:=@step_len2 g x.cells (Hs x)
  simp only [Yd,List.length_drop]
  split <;> simp <;> omega
end
def brM (n a b : Int) : Int:=if (decide (b < a) || decide (n < a)) = true then a else if b < n then b else n
def allM (g : Graph) : Nat → List Cell → List Record → List Cell × List Record × Nat
 | 0,cs,rs=>(cs,rs,0)
 | m + 1,cs,rs=>if rs.length = 0 then (cs,rs,0) else
  ((allM g m (Xw g cs (List.getD rs 0 default)).1 (rs.drop 1 ++ (Xw g cs (List.getD rs 0 default)).2.1)).1,
  (allM g m (Xw g cs (List.getD rs 0 default)).1 (rs.drop 1 ++ (Xw g cs (List.getD rs 0 default)).2.1)).2.1,
  (allM g m (Xw g cs (List.getD rs 0 default)).1 (rs.drop 1 ++ (Xw g cs (List.getD rs 0 default)).2.1)).2.2 + 1)
def stepAllM (g : Graph) (cs : List Cell) (rs : List Record) (most : Int) : List Cell × List Record × Nat:=allM g (Int.toNat (brM most 0 100000)) cs rs
section
variable {g : Graph} {cs cs0 : List Cell} {rs rs0 : List Record} {r : Record} {k m : Nat}
end
def Cb (op e k : Int) (y : Cell) : Bool:=K6 y ⟨op,e,k,0⟩
def psiF (b : List Cell) (c : Nat) : Nat:=if (Y4 b ((c / 400 : Nat) : Int) ((c / 100 % 4 : Nat) : Int) ((c % 100 : Nat) : Int)).2 = true then Int.toNat (Y4 b ((c / 400 : Nat) : Int) ((c / 100 % 4 : Nat) : Int) ((c % 100 : Nat) : Int)).1 else 1000
def D0 (f : Nat → Nat) : Nat → Nat
 | 0=>0
 | n + 1=>D0 f n + f n
def psi (b : List Cell) : Nat:=D0 (psiF b) 3200
theorem psiS_eq {f f' : Nat → Nat} : ∀ n,(∀ c,c < n → f' c = f c) → D0 f' n = D0 f n
 | 0,_=>rfl
 | n + 1,h=>by rw [D0,D0,psiS_eq n (fun c hc=>h c (by omega)),h n (by omega)]
theorem psiS_lt {f f' : Nat → Nat} {c0 : Nat} (h0 : f' c0 < f c0) (h : ∀ c,c ≠ c0 → f' c = f c) : ∀ n,c0 < n → D0 f' n < D0 f n
 | 0,hn=>by omega
 | n + 1,hn=>by
  rw [D0,D0]
  by_cases e : c0 = n
  ·subst e
   rw [psiS_eq c0 (fun c hc=>h c (by omega))];omega
  ·have:=psiS_lt h0 h n (by omega)
   rw [h n (by omega)];omega
section
variable {xs : List Cell} {x : Cell} {op e k n : Int} {s : Bool}
theorem V7 : ∀ (xs : List Cell) (n : Int) (s : Bool),K2 op e k xs n s = K2 op e k (xs.filter (Cb op e k)) n s
 | [],_,_=>rfl
 | x :: xs,n,s=>by
  rw [K2]
  by_cases h : Cb op e k x = true
  ·rw [List.filter_cons_of_pos h,K2,← V7 xs,← V7 xs]
  ·rw [List.filter_cons_of_neg h,← V7 xs]
   have h' : K6 x ⟨op,e,k,0⟩ = false:=Bool.eq_false_iff.2 h
   rw [h'];simp
theorem H5 (xs : List Cell) : Y4 xs op e k = K2 op e k (xs.filter (Cb op e k)) 0 false:=V7 xs 0 false
theorem slot_iff {x y : Cell} : K6 x y = true ↔ x.op = y.op ∧ x.epoch = y.epoch ∧ x.key = y.key:=by
 simp [K6,and_assoc]
theorem better_own (h : (X3 xs x).2 = true) : Y4 (X3 xs x).1 x.op x.epoch x.key = (x.val,true):=by
 have hc : ((Y4 xs x.op x.epoch x.key).2 && decide ((Y4 xs x.op x.epoch x.key).1 ≤ x.val)) = false:=by
  cases hq : ((Y4 xs x.op x.epoch x.key).2 && decide ((Y4 xs x.op x.epoch x.key).1 ≤ x.val))
  ·rfl
  ·rw [Gy hq] at h;cases h
 rw [Tx hc]
 have hx : K6 x x = true:=slot_iff.2 ⟨rfl,rfl,rfl⟩
 have hn : x ∉ xs.filter (fun y=>!(K6 x y)):=fun hm=>by
  have:=(List.mem_filter.1 hm).2
  rw [hx] at this;cases this
 have hz : (xs.filter (fun y=>!(K6 x y))).filter (Cb x.op x.epoch x.key) = []:=by
  rw [List.filter_filter,List.filter_eq_nil_iff]
  intro y _ hy
  simp only [Bool.and_eq_true,Bool.not_eq_true'] at hy
  have h1:=slot_iff.1 (show K6 y ⟨x.op,x.epoch,x.key,0⟩ = true from hy.1)
  rw [show K6 x y = true from slot_iff.2 ⟨h1.1.symm,h1.2.1.symm,h1.2.2.symm⟩] at hy
  cases hy.2
 have hs : Cb x.op x.epoch x.key x = true:=slot_iff.2 ⟨rfl,rfl,rfl⟩
 rw [H5,C2,if_neg hn]
 generalize hl : xs.filter (fun y=>!(K6 x y)) = l at hz
 have ha : (l.take (putAt l x)).filter (Cb x.op x.epoch x.key) = []:=by
  rw [List.filter_eq_nil_iff] at hz ⊢;exact fun y hy=>hz y (List.mem_of_mem_take hy)
 have hb : (l.drop (putAt l x)).filter (Cb x.op x.epoch x.key) = []:=by
  rw [List.filter_eq_nil_iff] at hz ⊢;exact fun y hy=>hz y (List.mem_of_mem_drop hy)
 simp only [D3,List.filter_append,List.filter_cons,ha,hb,hs,if_true,List.nil_append]
 have hs' : K6 x ⟨x.op,x.epoch,x.key,0⟩ = true:=hs
 simp [K2,hs']
theorem better_other (h : ¬ (op = x.op ∧ e = x.epoch ∧ k = x.key)) : Y4 (X3 xs x).1 op e k = Y4 xs op e k:=by
 unfold X3
 split
 ·rfl
 ·have hf : (xs.filter (fun y=>!(K6 x y))).filter (Cb op e k) = xs.filter (Cb op e k):=by
   rw [List.filter_filter]
   refine List.filter_congr fun y _=>?_
   cases hy : Cb op e k y with
   | false=>simp
   | true =>
    have h1:=slot_iff.1 (show K6 y ⟨op,e,k,0⟩ = true from hy)
    have h2 : K6 x y = false:=Bool.eq_false_iff.2 fun hq=>h (by
     have h3:=slot_iff.1 hq
     exact ⟨(h3.1.trans h1.1).symm,(h3.2.1.trans h1.2.1).symm,(h3.2.2.trans h1.2.2).symm⟩)
    rw [h2];rfl
  have hs : Cb op e k x = false:=Bool.eq_false_iff.2 fun hq=>by
   have h1:=slot_iff.1 (show K6 x ⟨op,e,k,0⟩ = true from hq)
   exact h ⟨h1.1.symm,h1.2.1.symm,h1.2.2.symm⟩
  rw [H5,H5 xs]
  congr 1
  unfold C2
  split
  ·exact hf
  ·rw [← hf]
   generalize xs.filter (fun y=>!(K6 x y)) = l
   simp only [D3,List.filter_append,List.filter_cons,hs]
   simp only [Bool.false_eq_true,if_false]
   rw [← List.filter_append,List.take_append_drop]
theorem psi_better (h : (X3 xs x).2 = true) (ho : 0 ≤ x.op ∧ x.op < 8) (he : 0 ≤ x.epoch ∧ x.epoch ≤ 3) (hk : 0 ≤ x.key ∧ x.key ≤ 99) (hv : 0 ≤ x.val ∧ x.val ≤ 999) : psi (X3 xs x).1 < psi xs:=by
 have hc : ((Y4 xs x.op x.epoch x.key).2 && decide ((Y4 xs x.op x.epoch x.key).1 ≤ x.val)) = false:=by
  cases hq : ((Y4 xs x.op x.epoch x.key).2 && decide ((Y4 xs x.op x.epoch x.key).1 ≤ x.val))
  ·rfl
  ·rw [Gy hq] at h;cases h
 refine psiS_lt (c0:=Int.toNat (x.op * 400 + x.epoch * 100 + x.key)) ?_ (fun c hn=>?_) 3200 (by omega)
 ·have e1 : ((Int.toNat (x.op * 400 + x.epoch * 100 + x.key) / 400 : Nat) : Int) = x.op:=by omega
  have e2 : ((Int.toNat (x.op * 400 + x.epoch * 100 + x.key) / 100 % 4 : Nat) : Int) = x.epoch:=by omega
  have e3 : ((Int.toNat (x.op * 400 + x.epoch * 100 + x.key) % 100 : Nat) : Int) = x.key:=by omega
  unfold psiF
  rw [e1,e2,e3,better_own h,if_pos rfl]
  split
  ·rename_i hf
   rw [hf,Bool.true_and,decide_eq_false_iff_not] at hc
   simp only [];omega
  ·simp only [];omega
 ·have hne : ¬ (((c / 400 : Nat) : Int) = x.op ∧ ((c / 100 % 4 : Nat) : Int) = x.epoch ∧ ((c % 100 : Nat) : Int) = x.key):=fun hq=>hn (by omega)
  unfold psiF
  rw [better_other hne]
end
theorem fix_step (g : Graph) (b : List Cell) (x : Cell) : (psi (K7 g b x).1 + 1 ≤ psi b ∧ (K7 g b x).1.length ≤ b.length + 1 ∧ (K7 g b x).2.length ≤ 2) ∨ (K7 g b x = (b,[])):=by
 have h1:=@improve_len1 g b x
 have h2:=@improve_len2 g b x
 by_cases hb : A9 g x = true
 ·exact .inr (imp_0 hb)
 ·have hq:=imp_of (Bool.eq_false_iff.2 hb)
  have hop:=Vx hq.2
  have hl:=gok_len hq.1
  have hb':=Bool.eq_false_iff.2 hb
  simp only [A9,Yw,Bool.or_eq_false_iff,Bool.not_eq_false',Bool.and_eq_true,decide_eq_true_eq] at hb'
  by_cases hc : (X3 b x).2 = true
  ·refine .inl ⟨?_,h1,h2⟩
   have:=psi_better hc (by omega) (by omega) (by omega) (by omega)
   rw [K7,if_neg hb]
   split <;> exact this
  ·have hc':=Bool.eq_false_iff.2 hc
   exact .inr (by rw [K7,if_neg hb,if_pos (by rw [hc'];rfl),better_no hc'])
def fixGo (g : Graph) (b l : List Cell) : List Cell :=
 match l with
 | []=>b
 | x :: l=>fixGo g (K7 g b x).1 (l ++ (K7 g b x).2)
termination_by 3 * psi b + l.length
decreasing_by
 rcases fix_step g b x with h | h
 ·simp only [List.length_append,List.length_cons];omega
 ·rw [h];simp only [List.append_nil,List.length_cons];omega
def fixIn (e : Int) (rs : List Record) : List Cell:=(rs.filter (fun r=>ofE e r && Yx r)).map fun r=>⟨0,e,r.key,r.val⟩
def fixM (g : Graph) (e : Int) (rs : List Record) : List Cell:=fixGo g [] (fixIn e rs)
def fixT (e : Int) (p : Record → Bool) (rs : List Record) (k : Nat) : List Cell:=((rs.take k).filter p).map fun r=>⟨0,e,r.key,r.val⟩
section
variable {g : Graph} {b l : List Cell} {x : Cell} {e : Int} {rs : List Record} {p : Record → Bool} {k : Nat}
end
theorem C4 (j k : Nat) (x : Node) : Kc j (U4 k x) = Kc j x:=by simp [Kc,U4,Qi]
theorem markN1_idem (k : Nat) (x : Node) : U4 k (U4 k x) = U4 k x:=by simp [U4,Qi]
theorem C5 (j k : Nat) (x : Link) : U7 j (U5 k x) = U7 j x:=by simp [U7,U5,Qi]
theorem markL1_idem (k : Nat) (x : Link) : U5 k (U5 k x) = U5 k x:=by simp [U5,Qi]
theorem Db (j k : Nat) (x : Cluster) : Vb j (Uj k x) = Vb j x:=by simp [Vb,Uj,Qi,Gj C4,Gj A6,Gj C5]
theorem Bi (k : Nat) (x : Cluster) : Uj k x = Uj k (Uj k x):=by
 simp [Uj,Qi,Gj C4,Gj A6,Gj C5,Tq C4 markN1_idem,Tq A6 (fun k x=>(markW_idem k x).symm),Tq C5 markL1_idem]
theorem Dr (k : Nat) (x : Cluster) : Yg (Uj k x) = Yg x:=by
 simp [Yg,Xa,Uj,Qi,Cp (cnt:=Xx) (n:=Kc) (m:=U4) (fun k x=>by simp [Xx,U4,Qi]),Cp (cnt:=Yd) (n:=V6) (m:=Hx) cntW_mark,Cp (cnt:=Xl) (n:=U7) (m:=U5) (fun k x=>by simp [Xl,U5,Qi])]
def inpTo (x : Cluster) (e : Int) (k : Nat) : List Record:=(x.workers.take k).flatMap fun w=>w.inputs.filter (ofE e)
def ownerOf (k w : Int) : Int:=if w < 1 then 0 else if Int.tmod k w < 0 then Int.tmod k w + w else Int.tmod k w
def linkNew (c : Int) : Link:=⟨brM c 1 4,[],brM c 1 4,0,0,0⟩
def sendM (l : Link) (r : Record) : Link × Bool :=
 if X9 l = true ∧ Yx r = true ∧ l.credits ≠ 0 ∧ l.sent ≠ 1000000000 then (⟨l.cap,l.queue ++ [r],IntKind.i64.wrap (l.credits - 1),l.back,IntKind.i64.wrap (l.sent + 1),l.got⟩,true) else (l,false)
def Ah (l : Link) : Link × Record × Bool :=
 if X9 l = true ∧ 0 < l.queue.length then (⟨l.cap,l.queue.drop 1,l.credits,IntKind.i64.wrap (l.back + 1),l.sent,IntKind.i64.wrap (l.got + 1)⟩,List.getD l.queue 0 default,true) else (l,⟨0,⟨0,0⟩,0,0⟩,false)
def By (l : Link) : Link × Bool :=
 if X9 l = true ∧ l.back ≠ 0 then (⟨l.cap,l.queue,IntKind.i64.wrap (l.credits + 1),IntKind.i64.wrap (l.back - 1),l.sent,l.got⟩,true) else (l,false)
section
variable {l : Link} {r : Record}
end
def Bs (x : Cluster) (w : Int) : Bool:=Ug x && Yw w 0 (IntKind.i64.wrap (((x.workers.length : Nat) : Int) - 1))
def G7 (x : Cluster) (a b : Int) : Int:=if ((!(Ug x)) || (a == b)) = true then -1 else Hy x.graph a b
def Ag (x : Cluster) (w : Int) : Worker:=List.getD x.workers (Int.toNat w) default
def lAt (x : Cluster) (k : Int) : Link:=List.getD x.links (Int.toNat k) default
def Br (x : Cluster) (w : Int) (y : Worker) : Cluster:={ x with workers:=x.workers.set (Int.toNat w) y }
def setLk (x : Cluster) (k : Int) (y : Link) : Cluster:={ x with links:=x.links.set (Int.toNat k) y }
def pickInput (x : Cluster) (w : Int) : Cluster × Bool:=if Bs x w = true then (Br x w (takeM x.graph (Ag x w)).1,(takeM x.graph (Ag x w)).2) else (x,false)
def Qu (x : Cluster) (w : Int) : Cluster × Bool:=if Bs x w = true then (Br x w (V3 x.graph (Ag x w)).1,(V3 x.graph (Ag x w)).2) else (x,false)
def pickCredit (x : Cluster) (a b : Int) : Cluster × Bool:=if G7 x a b < 0 then (x,false) else (setLk x (G7 x a b) (By (lAt x (G7 x a b))).1,(By (lAt x (G7 x a b))).2)
def pickTake (x : Cluster) (a b : Int) : Cluster × Bool:=if G7 x a b < 0 then (x,false) else
 if (Ah (lAt x (G7 x a b))).2.2 = true then (Br (setLk x (G7 x a b) (Ah (lAt x (G7 x a b))).1) b (recvW (Ag x b) (Ah (lAt x (G7 x a b))).2.1),true) else (x,false)
def mvR (x : Cluster) (w : Int) : Record:=(unstM (Ag x w)).2.1
def mvO (x : Cluster) (w : Int) : Int:=ownerOf (mvR x w).key x.graph.workers
def mvS (x : Cluster) (w : Int) : Link × Bool:=sendM (lAt x (Hy x.graph w (mvO x w))) (mvR x w)
def pickMove (x : Cluster) (w : Int) : Cluster × Bool:=if Bs x w = true ∧ 0 < (Ag x w).staged.length then
 if mvO x w = w then (Br x w (keptW (unstM (Ag x w)).1 (mvR x w)),true) else
 if (mvS x w).2 = true then (Br (setLk x (Hy x.graph w (mvO x w)) (mvS x w).1) w (sentW (unstM (Ag x w)).1 (mvR x w).stamp.epoch),true) else (x,false) else (x,false)
section
variable {x : Cluster} {a b w : Int}
theorem clOk_head (h : Ug x = true) : Tw x = false:=by
 simp only [Ug,Bool.and_eq_true,Bool.not_eq_true'] at h
 exact h.1.1.1.1
theorem hasW_in (hm : x.workers.length ≤ maxLen) (h : Bs x w = true) : Ug x = true ∧ 0 ≤ w ∧ w < ((x.workers.length : Nat) : Int) ∧ Int.toNat w < x.workers.length:=by
 unfold Bs at h
 rw [isN_w hm] at h
 simp only [Bool.and_eq_true,Tj] at h
 exact ⟨h.1,by omega,by omega,by omega⟩
theorem Ax (h : Int.toNat w < x.workers.length) : x.workers[Int.toNat w] = Ag x w:=(Ki h).symm
theorem cntL_set {α : Type} {cnt : α → Nat} : ∀ {xs : List α} {i : Nat} (h : i < xs.length) (y : α),X1 cnt (xs.set i y) + cnt xs[i] = X1 cnt xs + cnt y
 | [],_,h,_=>by simp at h
 | x :: xs,0,_,y=>by simp [X1];omega
 | x :: xs,i + 1,h,y=>by
  have:=cntL_set (cnt:=cnt) (xs:=xs) (i:=i) (by simpa using h) y
  simp only [X1,List.set_cons_succ,List.length_cons,List.map_cons,List.sum_cons,List.getElem_cons_succ] at *;omega
theorem cntL_get {α : Type} {cnt : α → Nat} {xs : List α} {i : Nat} (h : i < xs.length) : cnt xs[i] + 1 ≤ X1 cnt xs:=by
 have:=Gf (f:=cnt) h
 unfold X1;omega
end
def runBad (x : Cluster) (ok : Bool) (a b : Int) : Bool:=((!ok) || (decide (Hy x.graph a b < 0))) || (a == b)
def runCredit (x : Cluster) (ok : Bool) (a b : Int) : Cluster × Bool:=if runBad x ok a b = true then (x,false) else (setLk x (Hy x.graph a b) (By (lAt x (Hy x.graph a b))).1,(By (lAt x (Hy x.graph a b))).2)
section
variable {x : Cluster} {ok : Bool} {a b : Int}
end
theorem cnt_setW {x : Cluster} {k : Int} {y : Worker} {c : Nat} (h : Yd y ≤ Yd (Ag x k) + c) : Yg (Br x k y) ≤ Yg x + c:=by
 unfold Br Ag Yg at *
 by_cases hk : Int.toNat k < x.workers.length
 ·have:=cntL_set (cnt:=Yd) hk y
  rw [Ki hk] at h
  simp only at *;omega
 ·rw [List.set_eq_of_length_le (by omega)];simp only;omega
theorem cnt_pickWork (x : Cluster) (w : Int) : Yg (Qu x w).1 ≤ Yg x + 3:=by
 unfold Qu;split
 ·exact cnt_setW cnt_work
 ·exact Nat.le_add_right _ _
def Cd (x : Cluster) (ok : Bool) (w : Int) : Bool:=ok && Yw w 0 (IntKind.i64.wrap (((x.workers.length : Nat) : Int) - 1))
def inBad (y : Worker) : Bool:=((decide (((y.staged.length : Nat) : Int) > 0)) || (decide (((y.queue.length : Nat) : Int) > 0))) || (((y.inputs.length : Nat) : Int) == 0)
def runInput (x : Cluster) (ok : Bool) (w : Int) : Cluster × Bool:=if Cd x ok w = true ∧ inBad (Ag x w) = false then
 (Br x w ⟨[List.getD (Ag x w).inputs 0 default],(Ag x w).staged,(Ag x w).inputs.drop 1,(Ag x w).cells,(Ag x w).sums,(Ag x w).black,(Ag x w).caps,(Ag x w).dones⟩,true) else (x,false)
section
variable {x : Cluster} {ok : Bool} {w : Int}
theorem run_w (hcl : ok = true → Ug x = true) (hm : x.workers.length ≤ maxLen) (h : (!(ok && Yw w 0 (IntKind.i64.wrap (((x.workers.length : Nat) : Int) - 1)))) = false) : Ug x = true ∧ 0 ≤ w ∧ w < ((x.workers.length : Nat) : Int) ∧ Int.toNat w < x.workers.length:=by
 simp only [Bool.not_eq_false',Bool.and_eq_true] at h
 exact hasW_in hm (by unfold Bs;rw [hcl h.1,h.2];rfl)
variable (hw : Ug x = true ∧ 0 ≤ w ∧ w < ((x.workers.length : Nat) : Int) ∧ Int.toNat w < x.workers.length)
end
theorem clOk_in {x : Cluster} (h : Ug x = true) : Ys x.graph = true ∧ ∀ y ∈ x.workers,Xc x.graph y = true:=by
 have h1:=clOk_head h
 simp only [Tw,Bool.or_eq_false_iff,Bool.not_eq_false'] at h1
 simp only [Ug,Bool.and_eq_true] at h
 exact ⟨h1.1.1.1,fun y hy=>List.all_eq_true.1 h.1.1.1.2 y hy⟩
def sumY (y : Worker) (e n : Int) : Worker:=⟨y.queue,y.staged,y.inputs,y.cells,y.sums.set (Int.toNat e) (IntKind.i64.wrap (List.getD y.sums (Int.toNat e) default + n)),y.black,y.caps,y.dones⟩
def sumOk (y : Worker) (e n : Int) : Bool:=Yw (IntKind.i64.wrap (List.getD y.sums (Int.toNat e) default + n)) (-1000000) 1000000
section
variable {x : Cluster} {p e n : Int}
end
def takeY (y : Worker) (r : Record) : Worker:=⟨y.queue ++ [r],y.staged,y.inputs,y.cells,y.sums,y.black.set (Int.toNat r.stamp.epoch) true,y.caps,y.dones⟩
def runTake (x : Cluster) (ok : Bool) (a b : Int) : Cluster × Bool × Bool:=if runBad x ok a b = true then (x,false,ok) else
 if (Ah (lAt x (Hy x.graph a b))).2.2 = false then (x,false,ok) else
 (Br (setLk x (Hy x.graph a b) (Ah (lAt x (Hy x.graph a b))).1) b (sumY (takeY (Ag x b) (Ah (lAt x (Hy x.graph a b))).2.1) (Ah (lAt x (Hy x.graph a b))).2.1.stamp.epoch (-1)),true,
  ok && sumOk (takeY (Ag x b) (Ah (lAt x (Hy x.graph a b))).2.1) (Ah (lAt x (Hy x.graph a b))).2.1.stamp.epoch (-1))
section
variable {x : Cluster} {ok : Bool} {a b : Int}
end
def Cv (y : Worker) : Bool:=(decide (((y.staged.length : Nat) : Int) > 0)) || (((y.queue.length : Nat) : Int) == 0)
def wkY (g : Graph) (y : Worker) : Worker:=⟨y.queue.drop 1,(Xw g y.cells (Hs y)).2.1,y.inputs,(Xw g y.cells (Hs y)).1,y.sums,y.black,if U0 g (Hs y) = true then y.caps.set (Int.toNat (Hs y).stamp.epoch) true else y.caps,y.dones⟩
def K0 (x : Cluster) (ok : Bool) (w : Int) : Cluster × Bool:=if Cd x ok w = true ∧ Cv (Ag x w) = false then (Br x w (wkY x.graph (Ag x w)),true) else (x,false)
section
variable {x : Cluster} {ok : Bool} {w : Int}
theorem wk_le2 (y : Worker) : y.queue.length ≤ Yd y ∧ y.staged.length ≤ Yd y ∧ y.cells.length ≤ Yd y:=by unfold Yd;omega
theorem run_wk0 {y : Worker} (h : Cv y = false) : 0 < y.queue.length:=by
 unfold Cv at h
 simp only [Bool.or_eq_false_iff,beq_eq_false_iff_ne] at h;omega
theorem wk_bad {g : Graph} {y : Worker} (h1 : Ys g = true) (h2 : Xc g y = true) : G4 g y = Cv y:=by
 unfold G4 Cv
 rw [h1,h2,Bool.eq_iff_iff]
 simp only [Bool.or_eq_true,decide_eq_true_eq,beq_iff_eq,Bool.not_eq_true']
 constructor <;> intro h <;> simp_all <;> omega
theorem work2_no1 (h : (!(ok && Yw w 0 (IntKind.i64.wrap (((x.workers.length : Nat) : Int) - 1)))) = true) : K0 x ok w = (x,false):=by
 unfold K0;rw [if_neg];rintro ⟨a,_⟩;unfold Cd at a;rw [a] at h;cases h
variable (hw : Ug x = true ∧ 0 ≤ w ∧ w < ((x.workers.length : Nat) : Int) ∧ Int.toNat w < x.workers.length)
theorem work2_no2 (h : Cv (x.workers[Int.toNat w]'hw.2.2.2) = true) : K0 x ok w = (x,false):=by
 unfold K0;rw [if_neg];rintro ⟨_,a⟩;rw [← Ax hw.2.2.2,h] at a;cases a
theorem run_wcap (h : Cv (x.workers[Int.toNat w]'hw.2.2.2) = false) (hl : 0 < (x.workers[Int.toNat w]'hw.2.2.2).queue.length) (hc : U0 x.graph (x.workers[Int.toNat w]'hw.2.2.2).queue[0] = true) :
  0 ≤ (x.workers[Int.toNat w]'hw.2.2.2).queue[0].stamp.epoch ∧ Int.toNat (x.workers[Int.toNat w]'hw.2.2.2).queue[0].stamp.epoch < (x.workers[Int.toNat w]'hw.2.2.2).caps.length:=by
 have hc':=clOk_in hw.1
 exact work_cap (by rw [wk_bad hc'.1 (hc'.2 _ (List.getElem_mem _))];exact h) hl hc
theorem work2_c (h1 : Cd x ok w = true) (h : Cv (x.workers[Int.toNat w]'hw.2.2.2) = false) (h0 : 0 < (x.workers[Int.toNat w]'hw.2.2.2).queue.length) (hc : U0 x.graph (x.workers[Int.toNat w]'hw.2.2.2).queue[0] = true) : K0 x ok w =
  (⟨x.graph,x.workers.set (Int.toNat w) ⟨(x.workers[Int.toNat w]'hw.2.2.2).queue.drop 1,(Xw x.graph (x.workers[Int.toNat w]'hw.2.2.2).cells (x.workers[Int.toNat w]'hw.2.2.2).queue[0]).2.1,(x.workers[Int.toNat w]'hw.2.2.2).inputs,(Xw x.graph (x.workers[Int.toNat w]'hw.2.2.2).cells (x.workers[Int.toNat w]'hw.2.2.2).queue[0]).1,(x.workers[Int.toNat w]'hw.2.2.2).sums,(x.workers[Int.toNat w]'hw.2.2.2).black,(x.workers[Int.toNat w]'hw.2.2.2).caps.set (Int.toNat (x.workers[Int.toNat w]'hw.2.2.2).queue[0].stamp.epoch) true,(x.workers[Int.toNat w]'hw.2.2.2).dones⟩,x.links,x.tokens,x.news⟩,true):=by
 have e:=Ax hw.2.2.2
 unfold K0
 rw [if_pos ⟨h1,by rw [← e];exact h⟩,← e]
 have hr : Hs (x.workers[Int.toNat w]'hw.2.2.2) = (x.workers[Int.toNat w]'hw.2.2.2).queue[0]:=Ki h0
 unfold wkY;rw [hr,if_pos hc];rfl
theorem work2_n (h1 : Cd x ok w = true) (h : Cv (x.workers[Int.toNat w]'hw.2.2.2) = false) (h0 : 0 < (x.workers[Int.toNat w]'hw.2.2.2).queue.length) (hc : U0 x.graph (x.workers[Int.toNat w]'hw.2.2.2).queue[0] = false) : K0 x ok w =
  (⟨x.graph,x.workers.set (Int.toNat w) ⟨(x.workers[Int.toNat w]'hw.2.2.2).queue.drop 1,(Xw x.graph (x.workers[Int.toNat w]'hw.2.2.2).cells (x.workers[Int.toNat w]'hw.2.2.2).queue[0]).2.1,(x.workers[Int.toNat w]'hw.2.2.2).inputs,(Xw x.graph (x.workers[Int.toNat w]'hw.2.2.2).cells (x.workers[Int.toNat w]'hw.2.2.2).queue[0]).1,(x.workers[Int.toNat w]'hw.2.2.2).sums,(x.workers[Int.toNat w]'hw.2.2.2).black,(x.workers[Int.toNat w]'hw.2.2.2).caps,(x.workers[Int.toNat w]'hw.2.2.2).dones⟩,x.links,x.tokens,x.news⟩,true):=by
 have e:=Ax hw.2.2.2
 unfold K0
 rw [if_pos ⟨h1,by rw [← e];exact h⟩,← e]
 have hr : Hs (x.workers[Int.toNat w]'hw.2.2.2) = (x.workers[Int.toNat w]'hw.2.2.2).queue[0]:=Ki h0
 unfold wkY;rw [hr,if_neg (D1 hc)];rfl
end
theorem pick_work {x : Cluster} {w : Int} (hm : x.workers.length ≤ maxLen) : K0 x (Ug x) w = Qu x w:=by
 unfold K0 Qu
 by_cases h : Bs x w = true
 ·have hw:=hasW_in hm h
  have hc:=clOk_in hw.1
  have hwk : Xc x.graph (Ag x w) = true:=by rw [← Ax hw.2.2.2];exact hc.2 _ (List.getElem_mem _)
  have hb:=wk_bad (y:=Ag x w) hc.1 hwk
  have hr : Cd x (Ug x) w = true:=h
  rw [if_pos h]
  cases hq : Cv (Ag x w) with
  | true =>
   rw [if_neg (by simp),V3,if_pos (by rw [hb,hq])]
   have : Br x w (Ag x w) = x:=by
    unfold Br;rw [← Ax hw.2.2.2,List.set_getElem_self]
   rw [this]
  | false =>
   rw [if_pos ⟨hr,rfl⟩,V3,if_neg (by rw [hb,hq];simp)];rfl
 ·rw [if_neg h,if_neg (fun hq=>h hq.1)]
end Go.Proofs.YtaangeddnfnhdaaGreat
