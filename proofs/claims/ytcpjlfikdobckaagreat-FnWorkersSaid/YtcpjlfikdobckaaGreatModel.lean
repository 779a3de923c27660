/- The plain functions on lists and numbers that the contracts name, and what holds of them; no condition. -/
import Derived.Test.YtcpjlfikdobckaaGreatLib2
namespace Go.Proofs.YtcpjlfikdobckaaGreat
open Go Go.Proofs.YtcpjlfikdobckaaGreat.X
def cntL {α : Type} (f : α → Nat) (xs : List α) : Nat:=xs.length + (xs.map f).sum
structure Stamp where
 epoch : Int
 turn : Int
 deriving DecidableEq,Inhabited
instance : Enc Stamp:=⟨fun x=>[.int .i64 x.epoch,.int .i64 x.turn],2,fun _=>rfl,fun _=>rfl,by decide⟩
structure Record where
 op : Int
 stamp : Stamp
 key : Int
 val : Int
 deriving DecidableEq,Inhabited
instance : Enc Record:=⟨fun x=>[.int .i64 x.op,.int .i64 x.stamp.epoch,.int .i64 x.stamp.turn,.int .i64 x.key,.int .i64 x.val],5,fun _=>rfl,fun _=>rfl,by decide⟩
structure Cell where
 op : Int
 epoch : Int
 key : Int
 val : Int
 deriving DecidableEq,Inhabited
instance : Enc Cell:=⟨fun x=>[.int .i64 x.op,.int .i64 x.epoch,.int .i64 x.key,.int .i64 x.val],4,fun _=>rfl,fun _=>rfl,by decide⟩
structure Done where
 epoch : Int
 capped : Bool
 deriving DecidableEq,Inhabited
instance : Enc Done:=⟨fun x=>[.int .i64 x.epoch,.bool x.capped],2,fun _=>rfl,fun _=>rfl,by decide⟩
structure Token where
 going : Bool
 place : Int
 sum : Int
 black : Bool
 capped : Bool
 deriving DecidableEq,Inhabited
instance : Enc Token:=⟨fun x=>[.bool x.going,.int .i64 x.place,.int .i64 x.sum,.bool x.black,.bool x.capped],5,fun _=>rfl,fun _=>rfl,by decide⟩
structure News where
 dest : Int
 epoch : Int
 capped : Bool
 deriving DecidableEq,Inhabited
instance : Enc News:=⟨fun x=>[.int .i64 x.dest,.int .i64 x.epoch,.bool x.capped],3,fun _=>rfl,fun _=>rfl,by decide⟩
structure Count where
 stamp : Stamp
 n : Int
 deriving DecidableEq,Inhabited
instance : Enc Count:=⟨fun x=>[.int .i64 x.stamp.epoch,.int .i64 x.stamp.turn,.int .i64 x.n],3,fun _=>rfl,fun _=>rfl,by decide⟩
structure Node where
 kind : Int
 a : Int
 b : Int
 outs : List Int
 deriving DecidableEq,Inhabited
instance : Dat Node:=⟨4,fun w lo hi cs x=>∃ o1,cs = [.int .i64 x.kind,.int .i64 x.a,.int .i64 x.b,o1] ∧ RdD w lo hi o1 x.outs,by decide,fun h=>by obtain ⟨o1,rfl,h1⟩:=h;exact rfl,fun h=>by obtain ⟨o1,rfl,h1⟩:=h;exact Qg rfl (Qg rfl (Qg rfl (Qg (RdD.one h1) (rfl)))),fun h s=>by obtain ⟨o1,rfl,h1⟩:=h;exact ⟨o1,rfl,RdD.same h1 s⟩,fun h a b=>by obtain ⟨o1,rfl,h1⟩:=h;exact ⟨o1,rfl,RdD.widen h1 a b⟩,fun h=>by obtain ⟨o1,rfl,h1⟩:=h;exact ⟨o1,rfl,RdD.any h1⟩⟩
theorem Node.op {w : World} {lo hi : Nat} {cs : List Value} {x : Node} (h : Dat.R w lo hi cs x) : ∃ o1,cs = [.int .i64 x.kind,.int .i64 x.a,.int .i64 x.b,o1] ∧ RdD w lo hi o1 x.outs:=h
theorem Node.mkR {w : World} {lo hi : Nat} {o1 : Value} (x : Node) (h1 : RdD w lo hi o1 x.outs) : Dat.R w lo hi [.int .i64 x.kind,.int .i64 x.a,.int .i64 x.b,o1] x:=⟨o1,rfl,h1⟩
def Tx (x : Node) : Nat:=x.outs.length
structure Graph where
 nodes : List Node
 workers : Int
 cap : Int
 deriving DecidableEq,Inhabited
instance : Dat Graph:=⟨3,fun w lo hi cs x=>∃ o1,cs = [o1,.int .i64 x.workers,.int .i64 x.cap] ∧ RdD w lo hi o1 x.nodes,by decide,fun h=>by obtain ⟨o1,rfl,h1⟩:=h;exact rfl,fun h=>by obtain ⟨o1,rfl,h1⟩:=h;exact Qg (RdD.one h1) (Qg rfl (Qg rfl (rfl))),fun h s=>by obtain ⟨o1,rfl,h1⟩:=h;exact ⟨o1,rfl,RdD.same h1 s⟩,fun h a b=>by obtain ⟨o1,rfl,h1⟩:=h;exact ⟨o1,rfl,RdD.widen h1 a b⟩,fun h=>by obtain ⟨o1,rfl,h1⟩:=h;exact ⟨o1,rfl,RdD.any h1⟩⟩
theorem Graph.op {w : World} {lo hi : Nat} {cs : List Value} {x : Graph} (h : Dat.R w lo hi cs x) : ∃ o1,cs = [o1,.int .i64 x.workers,.int .i64 x.cap] ∧ RdD w lo hi o1 x.nodes:=h
theorem Graph.mkR {w : World} {lo hi : Nat} {o1 : Value} (x : Graph) (h1 : RdD w lo hi o1 x.nodes) : Dat.R w lo hi [o1,.int .i64 x.workers,.int .i64 x.cap] x:=⟨o1,rfl,h1⟩
def Uq (x : Graph) : Nat:=cntL Tx x.nodes
structure Worker where
 queue : List Record
 staged : List Record
 inputs : List Record
 cells : List Cell
 sums : List Int
 black : List Bool
 caps : List Bool
 dones : List Done
 deriving DecidableEq,Inhabited
instance : Dat Worker:=⟨8,fun w lo hi cs x=>∃ o1 o2 o3 o4 o5 o6 o7 o8,cs = [o1,o2,o3,o4,o5,o6,o7,o8] ∧ RdD w lo hi o1 x.queue ∧ RdD w lo hi o2 x.staged ∧ RdD w lo hi o3 x.inputs ∧ RdD w lo hi o4 x.cells ∧ RdD w lo hi o5 x.sums ∧ RdD w lo hi o6 x.black ∧ RdD w lo hi o7 x.caps ∧ RdD w lo hi o8 x.dones,by decide,fun h=>by obtain ⟨o1,o2,o3,o4,o5,o6,o7,o8,rfl,h1,h2,h3,h4,h5,h6,h7,h8⟩:=h;exact rfl,fun h=>by obtain ⟨o1,o2,o3,o4,o5,o6,o7,o8,rfl,h1,h2,h3,h4,h5,h6,h7,h8⟩:=h;exact Qg (RdD.one h1) (Qg (RdD.one h2) (Qg (RdD.one h3) (Qg (RdD.one h4) (Qg (RdD.one h5) (Qg (RdD.one h6) (Qg (RdD.one h7) (Qg (RdD.one h8) (rfl)))))))),fun h s=>by obtain ⟨o1,o2,o3,o4,o5,o6,o7,o8,rfl,h1,h2,h3,h4,h5,h6,h7,h8⟩:=h;exact ⟨o1,o2,o3,o4,o5,o6,o7,o8,rfl,RdD.same h1 s,RdD.same h2 s,RdD.same h3 s,RdD.same h4 s,RdD.same h5 s,RdD.same h6 s,RdD.same h7 s,RdD.same h8 s⟩,fun h a b=>by obtain ⟨o1,o2,o3,o4,o5,o6,o7,o8,rfl,h1,h2,h3,h4,h5,h6,h7,h8⟩:=h;exact ⟨o1,o2,o3,o4,o5,o6,o7,o8,rfl,RdD.widen h1 a b,RdD.widen h2 a b,RdD.widen h3 a b,RdD.widen h4 a b,RdD.widen h5 a b,RdD.widen h6 a b,RdD.widen h7 a b,RdD.widen h8 a b⟩,fun h=>by obtain ⟨o1,o2,o3,o4,o5,o6,o7,o8,rfl,h1,h2,h3,h4,h5,h6,h7,h8⟩:=h;exact ⟨o1,o2,o3,o4,o5,o6,o7,o8,rfl,RdD.any h1,RdD.any h2,RdD.any h3,RdD.any h4,RdD.any h5,RdD.any h6,RdD.any h7,RdD.any h8⟩⟩
theorem Worker.op {w : World} {lo hi : Nat} {cs : List Value} {x : Worker} (h : Dat.R w lo hi cs x) : ∃ o1 o2 o3 o4 o5 o6 o7 o8,cs = [o1,o2,o3,o4,o5,o6,o7,o8] ∧ RdD w lo hi o1 x.queue ∧ RdD w lo hi o2 x.staged ∧ RdD w lo hi o3 x.inputs ∧ RdD w lo hi o4 x.cells ∧ RdD w lo hi o5 x.sums ∧ RdD w lo hi o6 x.black ∧ RdD w lo hi o7 x.caps ∧ RdD w lo hi o8 x.dones:=h
theorem Worker.mkR {w : World} {lo hi : Nat} {o1 o2 o3 o4 o5 o6 o7 o8 : Value} (x : Worker) (h1 : RdD w lo hi o1 x.queue) (h2 : RdD w lo hi o2 x.staged) (h3 : RdD w lo hi o3 x.inputs) (h4 : RdD w lo hi o4 x.cells) (h5 : RdD w lo hi o5 x.sums) (h6 : RdD w lo hi o6 x.black) (h7 : RdD w lo hi o7 x.caps) (h8 : RdD w lo hi o8 x.dones) : Dat.R w lo hi [o1,o2,o3,o4,o5,o6,o7,o8] x:=⟨o1,o2,o3,o4,o5,o6,o7,o8,rfl,h1,h2,h3,h4,h5,h6,h7,h8⟩
def Q6 (x : Worker) : Nat:=x.queue.length + x.staged.length + x.inputs.length + x.cells.length + x.sums.length + x.black.length + x.caps.length + x.dones.length
structure Link where
 cap : Int
 queue : List Record
 credits : Int
 back : Int
 sent : Int
 got : Int
 deriving DecidableEq,Inhabited
instance : Dat Link:=⟨6,fun w lo hi cs x=>∃ o1,cs = [.int .i64 x.cap,o1,.int .i64 x.credits,.int .i64 x.back,.int .i64 x.sent,.int .i64 x.got] ∧ RdD w lo hi o1 x.queue,by decide,fun h=>by obtain ⟨o1,rfl,h1⟩:=h;exact rfl,fun h=>by obtain ⟨o1,rfl,h1⟩:=h;exact Qg rfl (Qg (RdD.one h1) (Qg rfl (Qg rfl (Qg rfl (Qg rfl (rfl)))))),fun h s=>by obtain ⟨o1,rfl,h1⟩:=h;exact ⟨o1,rfl,RdD.same h1 s⟩,fun h a b=>by obtain ⟨o1,rfl,h1⟩:=h;exact ⟨o1,rfl,RdD.widen h1 a b⟩,fun h=>by obtain ⟨o1,rfl,h1⟩:=h;exact ⟨o1,rfl,RdD.any h1⟩⟩
theorem Link.op {w : World} {lo hi : Nat} {cs : List Value} {x : Link} (h : Dat.R w lo hi cs x) : ∃ o1,cs = [.int .i64 x.cap,o1,.int .i64 x.credits,.int .i64 x.back,.int .i64 x.sent,.int .i64 x.got] ∧ RdD w lo hi o1 x.queue:=h
theorem Link.mkR {w : World} {lo hi : Nat} {o1 : Value} (x : Link) (h1 : RdD w lo hi o1 x.queue) : Dat.R w lo hi [.int .i64 x.cap,o1,.int .i64 x.credits,.int .i64 x.back,.int .i64 x.sent,.int .i64 x.got] x:=⟨o1,rfl,h1⟩
def cntLink (x : Link) : Nat:=x.queue.length
structure Cluster where
 graph : Graph
 workers : List Worker
 links : List Link
 tokens : List Token
 news : List News
 deriving DecidableEq,Inhabited
instance : Dat Cluster:=⟨7,fun w lo hi cs x=>∃ o1 o2 o3 o4 o5,cs = [o1,.int .i64 x.graph.workers,.int .i64 x.graph.cap,o2,o3,o4,o5] ∧ RdD w lo hi o1 x.graph.nodes ∧ RdD w lo hi o2 x.workers ∧ RdD w lo hi o3 x.links ∧ RdD w lo hi o4 x.tokens ∧ RdD w lo hi o5 x.news,by decide,fun h=>by obtain ⟨o1,o2,o3,o4,o5,rfl,h1,h2,h3,h4,h5⟩:=h;exact rfl,fun h=>by obtain ⟨o1,o2,o3,o4,o5,rfl,h1,h2,h3,h4,h5⟩:=h;exact Qg (RdD.one h1) (Qg rfl (Qg rfl (Qg (RdD.one h2) (Qg (RdD.one h3) (Qg (RdD.one h4) (Qg (RdD.one h5) (rfl))))))),fun h s=>by obtain ⟨o1,o2,o3,o4,o5,rfl,h1,h2,h3,h4,h5⟩:=h;exact ⟨o1,o2,o3,o4,o5,rfl,RdD.same h1 s,RdD.same h2 s,RdD.same h3 s,RdD.same h4 s,RdD.same h5 s⟩,fun h a b=>by obtain ⟨o1,o2,o3,o4,o5,rfl,h1,h2,h3,h4,h5⟩:=h;exact ⟨o1,o2,o3,o4,o5,rfl,RdD.widen h1 a b,RdD.widen h2 a b,RdD.widen h3 a b,RdD.widen h4 a b,RdD.widen h5 a b⟩,fun h=>by obtain ⟨o1,o2,o3,o4,o5,rfl,h1,h2,h3,h4,h5⟩:=h;exact ⟨o1,o2,o3,o4,o5,rfl,RdD.any h1,RdD.any h2,RdD.any h3,RdD.any h4,RdD.any h5⟩⟩
theorem Cluster.op {w : World} {lo hi : Nat} {cs : List Value} {x : Cluster} (h : Dat.R w lo hi cs x) : ∃ o1 o2 o3 o4 o5,cs = [o1,.int .i64 x.graph.workers,.int .i64 x.graph.cap,o2,o3,o4,o5] ∧ RdD w lo hi o1 x.graph.nodes ∧ RdD w lo hi o2 x.workers ∧ RdD w lo hi o3 x.links ∧ RdD w lo hi o4 x.tokens ∧ RdD w lo hi o5 x.news:=h
theorem Cluster.mkR {w : World} {lo hi : Nat} {o1 o2 o3 o4 o5 : Value} (x : Cluster) (h1 : RdD w lo hi o1 x.graph.nodes) (h2 : RdD w lo hi o2 x.workers) (h3 : RdD w lo hi o3 x.links) (h4 : RdD w lo hi o4 x.tokens) (h5 : RdD w lo hi o5 x.news) : Dat.R w lo hi [o1,.int .i64 x.graph.workers,.int .i64 x.graph.cap,o2,o3,o4,o5] x:=⟨o1,o2,o3,o4,o5,rfl,h1,h2,h3,h4,h5⟩
def cntCluster (x : Cluster) : Nat:=Uq x.graph + cntL Q6 x.workers + cntL cntLink x.links + x.tokens.length + x.news.length
theorem Node.opD {w : World} {lo hi : Nat} {q0 q1 q2 o1 : Value} {x : Node} (h : Dat.R w lo hi [q0,q1,q2,o1] x) : RdD w lo hi o1 x.outs:=by
 obtain ⟨u,e,h1⟩:=Node.op h
 simp only [List.cons.injEq,and_true] at e
 obtain ⟨rfl,rfl,rfl,rfl⟩:=e
 exact h1
theorem Graph.opD {w : World} {lo hi : Nat} {o1 q1 q2 : Value} {x : Graph} (h : Dat.R w lo hi [o1,q1,q2] x) : RdD w lo hi o1 x.nodes:=by
 obtain ⟨u,e,h1⟩:=Graph.op h
 simp only [List.cons.injEq,and_true] at e
 obtain ⟨rfl,rfl,rfl⟩:=e
 exact h1
theorem Worker.opD {w : World} {lo hi : Nat} {o1 o2 o3 o4 o5 o6 o7 o8 : Value} {x : Worker} (h : Dat.R w lo hi [o1,o2,o3,o4,o5,o6,o7,o8] x) : RdD w lo hi o1 x.queue ∧ RdD w lo hi o2 x.staged ∧ RdD w lo hi o3 x.inputs ∧ RdD w lo hi o4 x.cells ∧ RdD w lo hi o5 x.sums ∧ RdD w lo hi o6 x.black ∧ RdD w lo hi o7 x.caps ∧ RdD w lo hi o8 x.dones:=by
 obtain ⟨u0,u1,u2,u3,u4,u5,u6,u7,e,h0,h1,h2,h3,h4,h5,h6,h7⟩:=Worker.op h
 simp only [List.cons.injEq,and_true] at e
 obtain ⟨rfl,rfl,rfl,rfl,rfl,rfl,rfl,rfl⟩:=e
 exact ⟨h0,h1,h2,h3,h4,h5,h6,h7⟩
theorem Link.opD {w : World} {lo hi : Nat} {q0 o1 q2 q3 q4 q5 : Value} {x : Link} (h : Dat.R w lo hi [q0,o1,q2,q3,q4,q5] x) : RdD w lo hi o1 x.queue:=by
 obtain ⟨u,e,h1⟩:=Link.op h
 simp only [List.cons.injEq,and_true] at e
 obtain ⟨rfl,rfl,rfl,rfl,rfl,rfl⟩:=e
 exact h1
theorem Cluster.opD {w : World} {lo hi : Nat} {o1 q1 q2 o2 o3 o4 o5 : Value} {x : Cluster} (h : Dat.R w lo hi [o1,q1,q2,o2,o3,o4,o5] x) : RdD w lo hi o1 x.graph.nodes ∧ RdD w lo hi o2 x.workers ∧ RdD w lo hi o3 x.links ∧ RdD w lo hi o4 x.tokens ∧ RdD w lo hi o5 x.news:=by
 obtain ⟨u0,u1,u2,u3,u4,e,h0,h1,h2,h3,h4⟩:=Cluster.op h
 simp only [List.cons.injEq,and_true] at e
 obtain ⟨rfl,rfl,rfl,rfl,rfl,rfl,rfl⟩:=e
 exact ⟨h0,h1,h2,h3,h4⟩
instance : Own1 Node:={ (inferInstance : Dat Node) with
 O:=fun w lo hi cs x=>∃ o1,cs = [.int .i64 x.kind,.int .i64 x.a,.int .i64 x.b,o1] ∧ SepL [o1] ∧ Own w lo hi 1 o1 (List.flatMap (Enc.enc (α:=Int)) x.outs)
 rd:=fun ⟨o1,e,s,h1⟩=>⟨o1,e,h1.rdD⟩
 kp:=fun ⟨o1,e,s,h1⟩ k=>⟨o1,e,s,h1.kp (k.sub (Vg (by rw [e];simp)))⟩
 wide:=fun ⟨o1,e,s,h1⟩ a b=>⟨o1,e,s,h1.widen a b⟩
 inn:=by rintro w lo hi cs x ⟨o1,rfl,s,h1⟩;exact FpA.all ⟨(fun _ h=>absurd h List.not_mem_nil),(fun _ h=>absurd h List.not_mem_nil),(fun _ h=>absurd h List.not_mem_nil),h1.innb,trivial⟩
 nd:=by rintro w lo hi cs x ⟨o1,rfl,s,h1⟩;exact (show (Uk [o1]).Nodup from SepL.nd s) }
theorem Node.opO {w : World} {lo hi : Nat} {cs : List Value} {x : Node} (h : Own1.O w lo hi cs x) : ∃ o1,cs = [.int .i64 x.kind,.int .i64 x.a,.int .i64 x.b,o1] ∧ SepL [o1] ∧ Own w lo hi 1 o1 (List.flatMap (Enc.enc (α:=Int)) x.outs):=h
theorem Node.mkO {w : World} {lo hi : Nat} {o1 : Value} (x : Node) (s : SepL [o1]) (h1 : Own w lo hi 1 o1 (List.flatMap (Enc.enc (α:=Int)) x.outs)) : Own1.O w lo hi [.int .i64 x.kind,.int .i64 x.a,.int .i64 x.b,o1] x:=⟨o1,rfl,s,h1⟩
theorem Node.opL {w : World} {lo hi : Nat} {q0 q1 q2 o1 : Value} {x : Node} (h : Own1.O w lo hi [q0,q1,q2,o1] x) : SepL [o1] ∧ Own w lo hi 1 o1 (List.flatMap (Enc.enc (α:=Int)) x.outs):=by
 obtain ⟨p1,e,s,h1⟩:=h
 simp only [List.cons.injEq,and_true] at e
 obtain ⟨rfl,rfl,rfl,rfl⟩:=e
 exact ⟨s,h1⟩
instance : Own1 Worker:={ (inferInstance : Dat Worker) with
 O:=fun w lo hi cs x=>∃ o1 o2 o3 o4 o5 o6 o7 o8,cs = [o1,o2,o3,o4,o5,o6,o7,o8] ∧ SepL [o1,o2,o3,o4,o5,o6,o7,o8] ∧ Own w lo hi 5 o1 (List.flatMap (Enc.enc (α:=Record)) x.queue) ∧ Own w lo hi 5 o2 (List.flatMap (Enc.enc (α:=Record)) x.staged) ∧ Own w lo hi 5 o3 (List.flatMap (Enc.enc (α:=Record)) x.inputs) ∧ Own w lo hi 4 o4 (List.flatMap (Enc.enc (α:=Cell)) x.cells) ∧ Own w lo hi 1 o5 (List.flatMap (Enc.enc (α:=Int)) x.sums) ∧ Own w lo hi 1 o6 (List.flatMap (Enc.enc (α:=Bool)) x.black) ∧ Own w lo hi 1 o7 (List.flatMap (Enc.enc (α:=Bool)) x.caps) ∧ Own w lo hi 2 o8 (List.flatMap (Enc.enc (α:=Done)) x.dones)
 rd:=fun ⟨o1,o2,o3,o4,o5,o6,o7,o8,e,s,h1,h2,h3,h4,h5,h6,h7,h8⟩=>⟨o1,o2,o3,o4,o5,o6,o7,o8,e,h1.rdD,h2.rdD,h3.rdD,h4.rdD,h5.rdD,h6.rdD,h7.rdD,h8.rdD⟩
 kp:=fun ⟨o1,o2,o3,o4,o5,o6,o7,o8,e,s,h1,h2,h3,h4,h5,h6,h7,h8⟩ k=>⟨o1,o2,o3,o4,o5,o6,o7,o8,e,s,h1.kp (k.sub (Vg (by rw [e];simp))),h2.kp (k.sub (Vg (by rw [e];simp))),h3.kp (k.sub (Vg (by rw [e];simp))),h4.kp (k.sub (Vg (by rw [e];simp))),h5.kp (k.sub (Vg (by rw [e];simp))),h6.kp (k.sub (Vg (by rw [e];simp))),h7.kp (k.sub (Vg (by rw [e];simp))),h8.kp (k.sub (Vg (by rw [e];simp)))⟩
 wide:=fun ⟨o1,o2,o3,o4,o5,o6,o7,o8,e,s,h1,h2,h3,h4,h5,h6,h7,h8⟩ a b=>⟨o1,o2,o3,o4,o5,o6,o7,o8,e,s,h1.widen a b,h2.widen a b,h3.widen a b,h4.widen a b,h5.widen a b,h6.widen a b,h7.widen a b,h8.widen a b⟩
 inn:=by rintro w lo hi cs x ⟨o1,o2,o3,o4,o5,o6,o7,o8,rfl,s,h1,h2,h3,h4,h5,h6,h7,h8⟩;exact FpA.all ⟨h1.innb,h2.innb,h3.innb,h4.innb,h5.innb,h6.innb,h7.innb,h8.innb,trivial⟩
 nd:=by rintro w lo hi cs x ⟨o1,o2,o3,o4,o5,o6,o7,o8,rfl,s,h1,h2,h3,h4,h5,h6,h7,h8⟩;exact (show (Uk [o1,o2,o3,o4,o5,o6,o7,o8]).Nodup from SepL.nd s) }
theorem Worker.opO {w : World} {lo hi : Nat} {cs : List Value} {x : Worker} (h : Own1.O w lo hi cs x) : ∃ o1 o2 o3 o4 o5 o6 o7 o8,cs = [o1,o2,o3,o4,o5,o6,o7,o8] ∧ SepL [o1,o2,o3,o4,o5,o6,o7,o8] ∧ Own w lo hi 5 o1 (List.flatMap (Enc.enc (α:=Record)) x.queue) ∧ Own w lo hi 5 o2 (List.flatMap (Enc.enc (α:=Record)) x.staged) ∧ Own w lo hi 5 o3 (List.flatMap (Enc.enc (α:=Record)) x.inputs) ∧ Own w lo hi 4 o4 (List.flatMap (Enc.enc (α:=Cell)) x.cells) ∧ Own w lo hi 1 o5 (List.flatMap (Enc.enc (α:=Int)) x.sums) ∧ Own w lo hi 1 o6 (List.flatMap (Enc.enc (α:=Bool)) x.black) ∧ Own w lo hi 1 o7 (List.flatMap (Enc.enc (α:=Bool)) x.caps) ∧ Own w lo hi 2 o8 (List.flatMap (Enc.enc (α:=Done)) x.dones):=h
theorem Worker.mkO {w : World} {lo hi : Nat} {o1 o2 o3 o4 o5 o6 o7 o8 : Value} (x : Worker) (s : SepL [o1,o2,o3,o4,o5,o6,o7,o8]) (h1 : Own w lo hi 5 o1 (List.flatMap (Enc.enc (α:=Record)) x.queue)) (h2 : Own w lo hi 5 o2 (List.flatMap (Enc.enc (α:=Record)) x.staged)) (h3 : Own w lo hi 5 o3 (List.flatMap (Enc.enc (α:=Record)) x.inputs)) (h4 : Own w lo hi 4 o4 (List.flatMap (Enc.enc (α:=Cell)) x.cells)) (h5 : Own w lo hi 1 o5 (List.flatMap (Enc.enc (α:=Int)) x.sums)) (h6 : Own w lo hi 1 o6 (List.flatMap (Enc.enc (α:=Bool)) x.black)) (h7 : Own w lo hi 1 o7 (List.flatMap (Enc.enc (α:=Bool)) x.caps)) (h8 : Own w lo hi 2 o8 (List.flatMap (Enc.enc (α:=Done)) x.dones)) : Own1.O w lo hi [o1,o2,o3,o4,o5,o6,o7,o8] x:=⟨o1,o2,o3,o4,o5,o6,o7,o8,rfl,s,h1,h2,h3,h4,h5,h6,h7,h8⟩
theorem Worker.opL {w : World} {lo hi : Nat} {o1 o2 o3 o4 o5 o6 o7 o8 : Value} {x : Worker} (h : Own1.O w lo hi [o1,o2,o3,o4,o5,o6,o7,o8] x) : SepL [o1,o2,o3,o4,o5,o6,o7,o8] ∧ Own w lo hi 5 o1 (List.flatMap (Enc.enc (α:=Record)) x.queue) ∧ Own w lo hi 5 o2 (List.flatMap (Enc.enc (α:=Record)) x.staged) ∧ Own w lo hi 5 o3 (List.flatMap (Enc.enc (α:=Record)) x.inputs) ∧ Own w lo hi 4 o4 (List.flatMap (Enc.enc (α:=Cell)) x.cells) ∧ Own w lo hi 1 o5 (List.flatMap (Enc.enc (α:=Int)) x.sums) ∧ Own w lo hi 1 o6 (List.flatMap (Enc.enc (α:=Bool)) x.black) ∧ Own w lo hi 1 o7 (List.flatMap (Enc.enc (α:=Bool)) x.caps) ∧ Own w lo hi 2 o8 (List.flatMap (Enc.enc (α:=Done)) x.dones):=by
 obtain ⟨p1,p2,p3,p4,p5,p6,p7,p8,e,s,h1,h2,h3,h4,h5,h6,h7,h8⟩:=h
 simp only [List.cons.injEq,and_true] at e
 obtain ⟨rfl,rfl,rfl,rfl,rfl,rfl,rfl,rfl⟩:=e
 exact ⟨s,h1,h2,h3,h4,h5,h6,h7,h8⟩
instance : Own1 Link:={ (inferInstance : Dat Link) with
 O:=fun w lo hi cs x=>∃ o1,cs = [.int .i64 x.cap,o1,.int .i64 x.credits,.int .i64 x.back,.int .i64 x.sent,.int .i64 x.got] ∧ SepL [o1] ∧ Own w lo hi 5 o1 (List.flatMap (Enc.enc (α:=Record)) x.queue)
 rd:=fun ⟨o1,e,s,h1⟩=>⟨o1,e,h1.rdD⟩
 kp:=fun ⟨o1,e,s,h1⟩ k=>⟨o1,e,s,h1.kp (k.sub (Vg (by rw [e];simp)))⟩
 wide:=fun ⟨o1,e,s,h1⟩ a b=>⟨o1,e,s,h1.widen a b⟩
 inn:=by rintro w lo hi cs x ⟨o1,rfl,s,h1⟩;exact FpA.all ⟨(fun _ h=>absurd h List.not_mem_nil),h1.innb,(fun _ h=>absurd h List.not_mem_nil),(fun _ h=>absurd h List.not_mem_nil),(fun _ h=>absurd h List.not_mem_nil),(fun _ h=>absurd h List.not_mem_nil),trivial⟩
 nd:=by rintro w lo hi cs x ⟨o1,rfl,s,h1⟩;exact (show (Uk [o1]).Nodup from SepL.nd s) }
theorem Link.opO {w : World} {lo hi : Nat} {cs : List Value} {x : Link} (h : Own1.O w lo hi cs x) : ∃ o1,cs = [.int .i64 x.cap,o1,.int .i64 x.credits,.int .i64 x.back,.int .i64 x.sent,.int .i64 x.got] ∧ SepL [o1] ∧ Own w lo hi 5 o1 (List.flatMap (Enc.enc (α:=Record)) x.queue):=h
theorem Link.mkO {w : World} {lo hi : Nat} {o1 : Value} (x : Link) (s : SepL [o1]) (h1 : Own w lo hi 5 o1 (List.flatMap (Enc.enc (α:=Record)) x.queue)) : Own1.O w lo hi [.int .i64 x.cap,o1,.int .i64 x.credits,.int .i64 x.back,.int .i64 x.sent,.int .i64 x.got] x:=⟨o1,rfl,s,h1⟩
theorem Link.opL {w : World} {lo hi : Nat} {q0 q1 q2 q3 q4 o1 : Value} {x : Link} (h : Own1.O w lo hi [q0,o1,q1,q2,q3,q4] x) : SepL [o1] ∧ Own w lo hi 5 o1 (List.flatMap (Enc.enc (α:=Record)) x.queue):=by
 obtain ⟨p1,e,s,h1⟩:=h
 simp only [List.cons.injEq,and_true] at e
 obtain ⟨rfl,rfl,rfl,rfl,rfl,rfl⟩:=e
 exact ⟨s,h1⟩
def okStamp (x : Stamp) : Prop:=(rg x.epoch) ∧ (rg x.turn)
def Tr (x : Record) : Prop:=(rg x.op) ∧ (okStamp x.stamp) ∧ (rg x.key) ∧ (rg x.val)
def okCell (x : Cell) : Prop:=(rg x.op) ∧ (rg x.epoch) ∧ (rg x.key) ∧ (rg x.val)
def okDone (x : Done) : Prop:=(rg x.epoch) ∧ (True)
def okToken (x : Token) : Prop:=(True) ∧ (rg x.place) ∧ (rg x.sum) ∧ (True) ∧ (True)
def okNews (x : News) : Prop:=(rg x.dest) ∧ (rg x.epoch) ∧ (True)
def okCount (x : Count) : Prop:=(okStamp x.stamp) ∧ (rg x.n)
def okNode (x : Node) : Prop:=(rg x.kind) ∧ (rg x.a) ∧ (rg x.b) ∧ (∀ y ∈ x.outs,rg y)
def okGraph (x : Graph) : Prop:=(∀ y ∈ x.nodes,okNode y) ∧ (rg x.workers) ∧ (rg x.cap)
def okWorker (x : Worker) : Prop:=(∀ y ∈ x.queue,Tr y) ∧ (∀ y ∈ x.staged,Tr y) ∧ (∀ y ∈ x.inputs,Tr y) ∧ (∀ y ∈ x.cells,okCell y) ∧ (∀ y ∈ x.sums,rg y) ∧ (∀ y ∈ x.black,True) ∧ (∀ y ∈ x.caps,True) ∧ (∀ y ∈ x.dones,okDone y)
def okLink (x : Link) : Prop:=(rg x.cap) ∧ (∀ y ∈ x.queue,Tr y) ∧ (rg x.credits) ∧ (rg x.back) ∧ (rg x.sent) ∧ (rg x.got)
def okCluster (x : Cluster) : Prop:=(okGraph x.graph) ∧ (∀ y ∈ x.workers,okWorker y) ∧ (∀ y ∈ x.links,okLink y) ∧ (∀ y ∈ x.tokens,okToken y) ∧ (∀ y ∈ x.news,okNews y)
section
variable {w w' : World} {lo hi lo' hi' : Nat} {o1 o2 o3 o4 o5 : Value} {x : Cluster} {y : Option Nat}
def OwC (w : World) (lo hi : Nat) (o1 o2 o3 o4 o5 : Value) (x : Cluster) : Prop :=
 ∃ f1 f2 f3,OwF w lo hi o1 x.graph.nodes f1 ∧ OwF w lo hi o2 x.workers f2 ∧ OwF w lo hi o3 x.links f3 ∧ Own w lo hi 5 o4 (List.flatMap (Enc.enc (α:=Token)) x.tokens) ∧ Own w lo hi 3 o5 (List.flatMap (Enc.enc (α:=News)) x.news) ∧ DjL [f1,f2,f3,Kt o4,Kt o5]
theorem OwC.same (h : OwC w lo hi o1 o2 o3 o4 o5 x) (s : Same w w' lo hi) : OwC w' lo hi o1 o2 o3 o4 o5 x:=by
 obtain ⟨f1,f2,f3,h1,h2,h3,h4,h5,sp⟩:=h
 exact ⟨f1,f2,f3,h1.same s,h2.same s,h3.same s,h4.kp ⟨s.size,fun b hb hl=>s.block b (h4.in2 b hb).1 (h4.in2 b hb).2 hl⟩,h5.kp ⟨s.size,fun b hb hl=>s.block b (h5.in2 b hb).1 (h5.in2 b hb).2 hl⟩,sp⟩
theorem OwC.ext (h : OwC w lo hi o1 o2 o3 o4 o5 x) (e : Ext w w') : OwC w' lo hi o1 o2 o3 o4 o5 x:=h.same (e.keeps (by simp))
theorem OwC.mod (h : OwC w lo hi o1 o2 o3 o4 o5 x) (m : Mod w w' y) (hx : ∀ g,y = some g → g < lo ∨ hi ≤ g) : OwC w' lo hi o1 o2 o3 o4 o5 x:=h.same (m.keeps hx)
theorem OwC.modR (h : OwC w lo hi o1 o2 o3 o4 o5 x) (m : ModR w w' lo' hi') (hx : hi ≤ lo' ∨ hi' ≤ lo) : OwC w' lo hi o1 o2 o3 o4 o5 x:=h.same (m.keeps hx)
theorem OwC.widen (h : OwC w lo hi o1 o2 o3 o4 o5 x) (a : lo' ≤ lo) (b : hi ≤ hi') : OwC w lo' hi' o1 o2 o3 o4 o5 x:=by
 obtain ⟨f1,f2,f3,h1,h2,h3,h4,h5,sp⟩:=h
 exact ⟨f1,f2,f3,h1.widen a b,h2.widen a b,h3.widen a b,h4.widen a b,h5.widen a b,sp⟩
theorem OwC.setW {P : Program} {t i lo2 hi2 : Nat} {z cs : List Value} {y : Worker} (hT : StT P t (Dat.sz Worker) z) (h : OwC w lo hi o1 o2 o3 o4 o5 x) (hi' : i < x.workers.length) (ho : Own1.O w lo2 hi2 cs y) (hd : hi ≤ lo2) (hl : lo ≤ lo2) (hh : hi ≤ hi2) :
  ∃ w',(storeVar t ⟨Kk o2,Ue o2 + i * Dat.sz Worker,none⟩ (.agg cs.toArray)).run P w = .ok () w' ∧ Mod w w' o2.ownBlock ∧ OwC w' lo hi2 o1 o2 o3 o4 o5 { x with workers:=x.workers.set i y }:=by
 obtain ⟨f1,f2,f3,h1,h2,h3,h4,h5,⟨d1,d2,d3,d4,_⟩,⟨d5,d6,d7,_⟩,sp⟩:=h
 have far : ∀ {f : List Nat},(∀ b ∈ f,lo ≤ b ∧ b < hi) → Dj f (Uk cs):=fun hf b hb hc=>by have:=hf b hb;have:=Own1.inn ho b hc;omega
 obtain ⟨w',f',hr,hm,h2',kq,hin⟩:=h2.set hT hi' ho (far h2.in2) hl hh
 exact ⟨w',hr,hm,f1,f',f3,(h1.kp (kq.kp d1)).widen (Nat.le_refl _) hh,h2',(h3.kp (kq.kp d5.symm)).widen (Nat.le_refl _) hh,(h4.kp (kq.kp d6.symm)).widen (Nat.le_refl _) hh,(h5.kp (kq.kp d7.symm)).widen (Nat.le_refl _) hh,
  ⟨d1.grow hin (far h1.in2),d2,d3,d4,trivial⟩,⟨(d5.symm.grow hin (far h3.in2)).symm,(d6.symm.grow hin (far h4.in2)).symm,(d7.symm.grow hin (far h5.in2)).symm,trivial⟩,sp⟩
theorem Dj.nilR {f : List Nat} : Dj f (Kt (.slice none 0 0)):=fun b _ hc=>by simp [Kt,Value.ownBlock] at hc
def OwR (w : World) (lo hi b : Nat) (o1 o2 o3 o4 o5 : Value) (x : Cluster) (ok : Bool) : Prop :=
 ∃ f1 f2 f3,Blk w b [o1,.int .i64 x.graph.workers,.int .i64 x.graph.cap,o2,o3,o4,o5,.bool ok] ∧ lo ≤ b ∧ OwF w lo hi o1 x.graph.nodes f1 ∧ OwF w lo hi o2 x.workers f2 ∧ OwF w lo hi o3 x.links f3 ∧ Own w lo hi 5 o4 (List.flatMap (Enc.enc (α:=Token)) x.tokens) ∧ Own w lo hi 3 o5 (List.flatMap (Enc.enc (α:=News)) x.news) ∧ DjL [f1,f2,f3,Kt o4,Kt o5,[b]]
theorem OwR.of {b : Nat} {ok : Bool} (h : OwC w lo hi o1 o2 o3 o4 o5 x) (hB : Blk w b [o1,.int .i64 x.graph.workers,.int .i64 x.graph.cap,o2,o3,o4,o5,.bool ok]) (hd : b < lo ∨ hi ≤ b) (h1 : lo' ≤ lo) (h2 : lo' ≤ b) (h3 : hi ≤ hi') : OwR w lo' hi' b o1 o2 o3 o4 o5 x ok:=by
 obtain ⟨f1,f2,f3,a1,a2,a3,a4,a5,⟨d1,d2,d3,d4,_⟩,⟨d5,d6,d7,_⟩,⟨d8,d9,_⟩,⟨d10,_⟩,_⟩:=h
 have far : ∀ {f : List Nat},(∀ y ∈ f,lo ≤ y ∧ y < hi) → Dj f [b]:=fun hf y hy hc=>by have:=hf y hy;simp at hc;omega
 exact ⟨f1,f2,f3,hB,h2,a1.widen h1 h3,a2.widen h1 h3,a3.widen h1 h3,a4.widen h1 h3,a5.widen h1 h3,
  ⟨d1,d2,d3,d4,far a1.in2,trivial⟩,⟨d5,d6,d7,far a2.in2,trivial⟩,⟨d8,d9,far a3.in2,trivial⟩,⟨d10,far a4.in2,trivial⟩,⟨far a5.in2,trivial⟩,trivial,trivial⟩
theorem OwC.of (x : Cluster) {a1 b1 a2 b2 a3 b3 a4 b4 a5 b5 : Nat} (h1 : OwS w a1 b1 o1 x.graph.nodes) (h2 : OwS w a2 b2 o2 x.workers) (h3 : OwS w a3 b3 o3 x.links) (h4 : Own w a4 b4 5 o4 (List.flatMap (Enc.enc (α:=Token)) x.tokens)) (h5 : Own w a5 b5 3 o5 (List.flatMap (Enc.enc (α:=News)) x.news))
  (hb : lo ≤ a1 ∧ b1 ≤ hi ∧ lo ≤ a2 ∧ b2 ≤ hi ∧ lo ≤ a3 ∧ b3 ≤ hi ∧ lo ≤ a4 ∧ b4 ≤ hi ∧ lo ≤ a5 ∧ b5 ≤ hi)
  (hd : (b1 ≤ a2 ∨ b2 ≤ a1) ∧ (b1 ≤ a3 ∨ b3 ≤ a1) ∧ (b1 ≤ a4 ∨ b4 ≤ a1) ∧ (b1 ≤ a5 ∨ b5 ≤ a1) ∧ (b2 ≤ a3 ∨ b3 ≤ a2) ∧ (b2 ≤ a4 ∨ b4 ≤ a2) ∧ (b2 ≤ a5 ∨ b5 ≤ a2) ∧ (b3 ≤ a4 ∨ b4 ≤ a3) ∧ (b3 ≤ a5 ∨ b5 ≤ a3) ∧ (b4 ≤ a5 ∨ b5 ≤ a4)) : OwC w lo hi o1 o2 o3 o4 o5 x:=by
 obtain ⟨f1,h1⟩:=h1.owf
 obtain ⟨f2,h2⟩:=h2.owf
 obtain ⟨f3,h3⟩:=h3.owf
 obtain ⟨p1,q1,p2,q2,p3,q3,p4,q4,p5,q5⟩:=hb
 obtain ⟨d1,d2,d3,d4,d5,d6,d7,d8,d9,d10⟩:=hd
 exact ⟨f1,f2,f3,h1.widen p1 q1,h2.widen p2 q2,h3.widen p3 q3,h4.widen p4 q4,h5.widen p5 q5,
  ⟨Dj.apart h1.in2 h2.in2 d1,Dj.apart h1.in2 h3.in2 d2,Dj.apart h1.in2 h4.in2 d3,Dj.apart h1.in2 h5.in2 d4,trivial⟩,⟨Dj.apart h2.in2 h3.in2 d5,Dj.apart h2.in2 h4.in2 d6,Dj.apart h2.in2 h5.in2 d7,trivial⟩,
  ⟨Dj.apart h3.in2 h4.in2 d8,Dj.apart h3.in2 h5.in2 d9,trivial⟩,⟨Dj.apart h4.in2 h5.in2 d10,trivial⟩,trivial,trivial⟩
end
def mkCell (k : Nat) : Cell:=⟨((k : Nat) : Int),((k + 1 : Nat) : Int),((k + 1 + 1 : Nat) : Int),((k + 1 + 1 + 1 : Nat) : Int)⟩
def Xj (a b : Int) : Int:=if a < b then -1 else if b < a then 1 else 0
def szM (m : Nat) (n : Int) : Int:=if n - m < 0 then -1 else n - m
section
variable {α : Type} {xs : List α} {f : α → Nat} {k : Nat}
end
section
variable {α : Type} {xs ys : List α} {k : Nat}
theorem V6 (h : ¬ xs.length = ys.length) : xs ≠ ys:=fun e=>h (by rw [e])
theorem Uo (hp : xs.take k = ys.take k) (h1 : k < xs.length) (h2 : k < ys.length) (h : xs[k] = ys[k]) : xs.take (k + 1) = ys.take (k + 1):=by
 rw [List.take_succ_eq_append_getElem h1,List.take_succ_eq_append_getElem h2,hp,h]
variable [DecidableEq α]
theorem V7 (h1 : k < xs.length) (h2 : k < ys.length) (h : ¬ xs[k] = ys[k]) : Value.bool false = .bool (decide (xs = ys)):=by
 have : xs ≠ ys:=fun e=>h (by subst e;rfl)
 simp [this]
theorem U9 (hp : xs.take k = ys.take k) (hl : xs.length = ys.length) (hk : xs.length ≤ k) : Value.bool true = .bool (decide (xs = ys)):=by
 rw [List.take_of_length_le hk,List.take_of_length_le (by omega)] at hp
 simp [hp]
end
def X7 : List Int → List Int → Int
 | [],[]=>0
 | [],_ :: _=>-1
 | _ :: _,[]=>1
 | x :: xs,y :: ys=>if Xj x y = 0 then X7 xs ys else Xj x y
section
variable {xs ys : List Int} {k : Nat}
theorem Bk (hI : X7 (xs.drop k) (ys.drop k) = X7 xs ys) (h1 : k < xs.length) (h2 : k < ys.length) : X7 xs ys = if Xj xs[k] ys[k] = 0 then X7 (xs.drop (k + 1)) (ys.drop (k + 1)) else Xj xs[k] ys[k]:=by
 rw [← hI,List.drop_eq_getElem_cons h1,List.drop_eq_getElem_cons h2,X7]
theorem cmpL_step (hI : X7 (xs.drop k) (ys.drop k) = X7 xs ys) (h1 : k < xs.length) (h2 : k < ys.length) (h : Xj xs[k] ys[k] = 0) : X7 (xs.drop (k + 1)) (ys.drop (k + 1)) = X7 xs ys:=by
 rw [Bk hI h1 h2,if_pos h]
theorem cmpL_1 (hI : X7 (xs.drop k) (ys.drop k) = X7 xs ys) (h1 : k < xs.length) (h2 : ys.length ≤ k) : Value.int .i64 1 = .int .i64 (X7 xs ys):=by
 rw [← hI,List.drop_eq_getElem_cons h1,List.drop_of_length_le h2,X7]
theorem cmpL_2 (hI : X7 (xs.drop k) (ys.drop k) = X7 xs ys) (h1 : k < xs.length) (h2 : k < ys.length) (h : ¬ Xj xs[k] ys[k] = 0) : Value.int .i64 (Xj xs[k] ys[k]) = .int .i64 (X7 xs ys):=by
 rw [Bk hI h1 h2,if_neg h]
theorem cmpL_3 (hI : X7 (xs.drop k) (ys.drop k) = X7 xs ys) (h1 : xs.length ≤ k) (h2 : k < ys.length) : Value.int .i64 (-1) = .int .i64 (X7 xs ys):=by
 rw [← hI,List.drop_eq_getElem_cons h2,List.drop_of_length_le h1,X7]
theorem cmpL_4 (hI : X7 (xs.drop k) (ys.drop k) = X7 xs ys) (h1 : xs.length ≤ k) (h2 : ys.length ≤ k) : Value.int .i64 0 = .int .i64 (X7 xs ys):=by
 rw [← hI,List.drop_of_length_le h2,List.drop_of_length_le h1,X7]
end
def X9 : List Int → Int
 | []=>0
 | x :: xs=>if x = 0 then X9 xs else x
section
variable {xs : List Int} {k : Nat}
theorem firstNZ_step (hI : X9 (xs.drop k) = X9 xs) (h1 : k < xs.length) (h : xs[k] = 0) : X9 (xs.drop (k + 1)) = X9 xs:=by
 rw [← hI,List.drop_eq_getElem_cons h1,X9,if_pos h]
theorem firstNZ_yes (hI : X9 (xs.drop k) = X9 xs) (h1 : k < xs.length) (h : ¬ xs[k] = 0) : xs[k] = X9 xs:=by
 rw [← hI,List.drop_eq_getElem_cons h1,X9,if_neg h]
theorem firstNZ_no (hI : X9 (xs.drop k) = X9 xs) (h1 : xs.length ≤ k) : X9 xs = 0:=by
 rw [← hI,List.drop_of_length_le h1,X9]
end
def Kg (x y : Cell) : Int:=X7 [x.epoch,x.op,x.key,x.val] [y.epoch,y.op,y.key,y.val]
theorem Aq (x y : Cell) : Kg x y = X9 [Xj x.epoch y.epoch,Xj x.op y.op,Xj x.key y.key,Xj x.val y.val]:=by simp [Kg,X7,X9]
theorem cellOrd_a {x y : Cell} {n : Int} (h : n = X9 [Xj x.epoch y.epoch,Xj x.op y.op,Xj x.key y.key,Xj x.val y.val]) : Value.int .i64 n = .int .i64 (Kg x y):=by rw [Aq,h]
theorem cellOrd_b {x y : Cell} (h : X9 [Xj x.epoch y.epoch,Xj x.op y.op,Xj x.key y.key,Xj x.val y.val] = 0) : Value.int .i64 0 = .int .i64 (Kg x y):=by rw [Aq,h]
section
variable {α : Type} {xs : List α} {x : α} {k : Nat}
theorem has_step (hI : x ∉ xs.take k) (h1 : k < xs.length) (h : ¬ xs[k] = x) : x ∉ xs.take (k + 1):=by
 rw [List.take_succ_eq_append_getElem h1]
 simp only [List.mem_append,List.mem_singleton,not_or]
 exact ⟨hI,fun e=>h e.symm⟩
variable [DecidableEq α]
theorem has_yes (h1 : k < xs.length) (h : xs[k] = x) : Value.bool true = .bool (decide (x ∈ xs)):=by
 have : x ∈ xs:=h ▸ List.getElem_mem h1
 simp [this]
theorem has_no (hI : x ∉ xs.take k) (h1 : xs.length ≤ k) : Value.bool false = .bool (decide (x ∈ xs)):=by
 rw [List.take_of_length_le h1] at hI
 simp [hI]
def idxI (xs : List α) (x : α) : Int:=if x ∈ xs then (xs.idxOf x : Int) else -1
end
def Uf (x y : Cell) : Bool:=x.op == y.op && x.epoch == y.epoch && x.key == y.key
def Kr (op epoch key : Int) : List Cell → Int → Bool → Int × Bool
 | [],n,s=>(n,s)
 | x :: xs,n,s=>if Uf x ⟨op,epoch,key,0⟩ && (!s || decide (x.val < n)) then Kr op epoch key xs x.val true else Kr op epoch key xs n s
def Yt (xs : List Cell) (op epoch key : Int) : Int × Bool:=Kr op epoch key xs 0 false
section
variable {xs : List Cell} {op epoch key n : Int} {s : Bool} {k : Nat} {r : Int × Bool}
theorem leastGo_yes (hI : Kr op epoch key (xs.drop k) n s = r) (h1 : k < xs.length) (h : (Uf xs[k] ⟨op,epoch,key,0⟩ && (!s || decide (xs[k].val < n))) = true) : Kr op epoch key (xs.drop (k + 1)) xs[k].val true = r:=by
 rw [← hI,List.drop_eq_getElem_cons h1,Kr,if_pos h]
theorem leastGo_no (hI : Kr op epoch key (xs.drop k) n s = r) (h1 : k < xs.length) (h : (Uf xs[k] ⟨op,epoch,key,0⟩ && (!s || decide (xs[k].val < n))) = false) : Kr op epoch key (xs.drop (k + 1)) n s = r:=by
 rw [← hI,List.drop_eq_getElem_cons h1,Kr,if_neg (by simp [h])]
end
section
variable {α : Type} {xs : List α} {p : α → Bool} {k : Nat}
theorem Vl (hI : (xs.take k).all p = true) (h1 : k < xs.length) (h : p xs[k] = true) : (xs.take (k + 1)).all p = true:=by
 rw [List.take_succ_eq_append_getElem h1,List.all_append,hI]
 simp [h]
theorem all_no (h1 : k < xs.length) (h : p xs[k] = false) : Value.bool false = .bool (xs.all p):=by
 congr 1;symm;rw [List.all_eq_false]
 exact ⟨_,List.getElem_mem h1,by simp [h]⟩
theorem all_yes (hI : (xs.take k).all p = true) (h1 : xs.length ≤ k) : Value.bool true = .bool (xs.all p):=by
 rw [List.take_of_length_le h1] at hI;rw [hI]
theorem Tu [Enc α] (h1 : k < xs.length) (h : p xs[k] = true) : ((xs.take k).filter p).flatMap Enc.enc ++ Enc.enc xs[k] = ((xs.take (k + 1)).filter p).flatMap Enc.enc:=by
 rw [List.take_succ_eq_append_getElem h1,List.filter_append,List.flatMap_append];simp [h]
theorem C1 [Enc α] (h1 : k < xs.length) (h : p xs[k] = false) : ((xs.take k).filter p).flatMap Enc.enc = ((xs.take (k + 1)).filter p).flatMap Enc.enc:=by
 rw [List.take_succ_eq_append_getElem h1,List.filter_append,List.flatMap_append];simp [h]
theorem Hm [Enc α] (xs : List α) (p : α → Bool) (k : Nat) : (((xs.take k).filter p).flatMap Enc.enc).length ≤ xs.length * Enc.sz α:=by
 rw [Ya]
 refine Nat.mul_le_mul_right _ (Nat.le_trans (List.length_filter_le _ _) ?_)
 simp;omega
theorem filt_all [Enc α] (h1 : xs.length ≤ k) : ((xs.take k).filter p).flatMap Enc.enc = (xs.filter p).flatMap Enc.enc:=by rw [List.take_of_length_le h1]
def G9 : List α → List (α × α)
 | x :: y :: l=>(x,y) :: G9 (y :: l)
 | _=>[]
theorem C3 : ∀ (xs : List α),(G9 xs).length = xs.length - 1
 | []=>rfl
 | [_]=>rfl
 | x :: y :: l=>by have:=C3 (y :: l);simp only [G9,List.length_cons] at *;omega
theorem adj_get : ∀ (xs : List α) (j : Nat) (h : j + 1 < xs.length) (h' : j < (G9 xs).length),(G9 xs)[j] = (xs[j],xs[j + 1])
 | x :: y :: l,0,_,_=>rfl
 | x :: y :: l,j + 1,h,h'=>by
  have:=adj_get (y :: l) j (by simpa using h) (by simpa [G9] using h')
  simpa [G9] using this
variable {q : α × α → Bool} {j : Nat}
theorem adj_step (hI : ((G9 xs).take j).all q = true) (h1 : j + 1 < xs.length) (h : q (xs[j],xs[j + 1]) = true) : ((G9 xs).take (j + 1)).all q = true:=by
 have h2 : j < (G9 xs).length:=by rw [C3];omega
 exact Vl hI h2 (by rw [adj_get xs j h1 h2];exact h)
theorem adj_no (h1 : j + 1 < xs.length) (h : q (xs[j],xs[j + 1]) = false) : Value.bool false = .bool ((G9 xs).all q):=by
 have h2 : j < (G9 xs).length:=by rw [C3];omega
 exact all_no h2 (by rw [adj_get xs j h1 h2];exact h)
theorem adj_yes (hI : ((G9 xs).take j).all q = true) (h1 : xs.length ≤ j + 1) : Value.bool true = .bool ((G9 xs).all q):=all_yes hI (by rw [C3];omega)
end
def nwP (a : List Cell) (x : Cell) : Bool:=!(!(Yt a x.op x.epoch x.key).2 || decide (x.val < (Yt a x.op x.epoch x.key).1))
def isOf (op epoch : Int) (x : Cell) : Bool:=x.op == op && x.epoch == epoch
def X6 (q : Cell × Cell) : Bool:=!decide (0 ≤ Kg q.1 q.2)
def Y2 (n lo hi : Int) : Bool:=decide (lo ≤ n) && decide (n ≤ hi)
def Vi (g : Graph) (a b : Int) : Int:=if a < 0 ∨ b < 0 ∨ g.workers ≤ a ∨ g.workers ≤ b then -1 else IntKind.i64.wrap (IntKind.i64.wrap (a * g.workers) + b)
section
variable {x y : Graph} {k : Nat}
end
theorem kx {p q : Bool} (h : (!p || !q) = true) : (p && q) = false:=by cases p <;> cases q <;> simp_all
theorem ky {p q : Bool} (h : (!p || !q) = false) : (p && q) = true:=by cases p <;> cases q <;> simp_all
def Ug (x : Node) : Bool :=
 if x.kind = 2 then Y2 x.a 0 999 && x.b == 0 else if x.kind = 3 then Y2 x.a 1 10 && Y2 x.b 0 (IntKind.i64.wrap (x.a - 1)) else if x.kind = 4 then Y2 x.a 0 99 && x.b == 0
 else Y2 x.kind 1 8 && (x.a == 0) && (x.b == 0)
def Am (x : Node) : Bool:=((decide (2 < ((x.outs.length : Nat) : Int))) || ((x.kind == 8) && (decide (0 < ((x.outs.length : Nat) : Int))))) || ((((x.outs.length : Nat) : Int) == 2) && ((List.getD x.outs 0 default) == (List.getD x.outs 1 default)))
def Xc (x : Node) : Bool:=Ug x && !Am x && x.outs.all (Y2 · 0 7)
section
variable {x : Node} {k : Nat}
theorem node_k (h : Ug x = false) : Value.bool false = .bool (Xc x):=by simp [Xc,h]
theorem node_t (h : Am x = true) : Value.bool false = .bool (Xc x):=by simp [Xc,h]
theorem node_l {h1 : k < x.outs.length} (h : (!(Y2 x.outs[k] 0 7)) = true) : Value.bool false = .bool (Xc x):=by
 have : x.outs.all (Y2 · 0 7) = false:=by
  rw [List.all_eq_false];exact ⟨_,List.getElem_mem h1,by simpa using h⟩
 simp [Xc,this]
theorem node_y (hk : Ug x = true) (ht : Am x = false) (hI : (x.outs.take k).all (Y2 · 0 7) = true) (h1 : x.outs.length ≤ k) : Value.bool true = .bool (Xc x):=by
 rw [List.take_of_length_le h1] at hI
 simp [Xc,hk,ht,hI]
theorem node_2 (h : (x.kind == 2) = true) : Ug x = (Y2 x.a 0 999 && x.b == 0):=by simp at h;simp [Ug,h]
theorem node_3 (h : (x.kind == 3) = true) : Ug x = (Y2 x.a 1 10 && Y2 x.b 0 (IntKind.i64.wrap (x.a - 1))):=by simp at h;simp [Ug,h]
theorem node_4 (h : (x.kind == 4) = true) : Ug x = (Y2 x.a 0 99 && x.b == 0):=by simp at h;simp [Ug,h]
theorem node_0 (h2 : (x.kind == 2) = false) (h3 : (x.kind == 3) = false) (h4 : (x.kind == 4) = false) : Ug x = (Y2 x.kind 1 8 && (x.a == 0) && (x.b == 0)):=by simp at h2 h3 h4;simp [Ug,h2,h3,h4]
theorem C5 {n : Int} (h : n = 1 ∨ n = 2 ∨ n = 3 ∨ n = 4 ∨ n = 5 ∨ n = 6 ∨ n = 7 ∨ n = 8) : Y2 n 1 8 = true:=by
 rcases h with h | h | h | h | h | h | h | h <;> subst h <;> decide
def nodeS (x : Node) (p q : Bool) : Bool:=(((!(Y2 x.kind 1 8) || !p) || !q) || (decide (2 < ((x.outs.length : Nat) : Int)))) || ((x.kind == 8) && (decide (0 < ((x.outs.length : Nat) : Int))))
theorem node_s {p q : Bool} (hk : Ug x = (Y2 x.kind 1 8 && p && q)) (h : nodeS x p q = true) : Value.bool false = .bool (Xc x):=by
 simp only [nodeS] at h
 cases hkk : Ug x with
 | false=>exact node_k hkk
 | true =>
  rw [hkk] at hk
  have hk:=hk.symm
  simp only [Bool.and_eq_true] at hk
  obtain ⟨⟨h1,h2⟩,h3⟩:=hk
  simp only [h1,h2,h3,Bool.not_true,Bool.false_or] at h
  exact node_t (by simp only [Am,h,Bool.true_or])
theorem node_p {p q : Bool} (h : nodeS x p q = false) (hk : Ug x = (Y2 x.kind 1 8 && p && q)) : Ug x = true ∧ ((decide (2 < ((x.outs.length : Nat) : Int))) || ((x.kind == 8) && (decide (0 < ((x.outs.length : Nat) : Int))))) = false:=by
 simp only [nodeS,Bool.or_eq_false_iff] at h
 obtain ⟨⟨⟨⟨h1,h2⟩,h3⟩,h4⟩,h5⟩:=h
 simp only [Bool.not_eq_false'] at h1 h2 h3
 simp only [hk,h1,h2,h3,h4,h5];simp
theorem node_d {h1 : k < x.outs.length} (h : ((!(Y2 x.outs[k] 0 7)) || ((decide (0 < ((k : Nat) : Int))) && ((List.getD x.outs 0 default) == (List.getD x.outs 1 default)))) = true) (ht : ((decide (2 < ((x.outs.length : Nat) : Int))) || ((x.kind == 8) && (decide (0 < ((x.outs.length : Nat) : Int))))) = false) : Value.bool false = .bool (Xc x):=by
 rcases Bool.or_eq_true _ _ ▸ h with h | h
 ·exact node_l h
 ·simp only [Bool.and_eq_true,decide_eq_true_eq] at h
  have ht2:=(Bool.or_eq_false_iff.1 ht).1
  simp only [decide_eq_false_iff_not] at ht2
  refine node_t ?_
  have : ((x.outs.length : Nat) : Int) = 2:=by omega
  simp only [Am,this,h.2];simp
theorem nodeL {h1 : k < x.outs.length} (h : ((!(Y2 x.outs[k] 0 7)) || ((decide (0 < ((k : Nat) : Int))) && ((List.getD x.outs 0 default) == (List.getD x.outs 1 default)))) = false) : Y2 x.outs[k] 0 7 = true:=by
 have:=(Bool.or_eq_false_iff.1 h).1
 simpa using this
theorem nodeJ {h1 : k < x.outs.length} (h : ((!(Y2 x.outs[k] 0 7)) || ((decide (0 < ((k : Nat) : Int))) && ((List.getD x.outs 0 default) == (List.getD x.outs 1 default)))) = false) : 1 < k + 1 → ((List.getD x.outs 0 default) == (List.getD x.outs 1 default)) = false:=fun hk=>by
 have:=(Bool.or_eq_false_iff.1 h).2
 have hd : decide (0 < ((k : Nat) : Int)) = true:=decide_eq_true (by omega)
 rwa [hd,Bool.true_and] at this
theorem node_z {p q : Bool} (hS : nodeS x p q = false) (hk : Ug x = (Y2 x.kind 1 8 && p && q)) (hI : (x.outs.take k).all (Y2 · 0 7) = true) (hJ : 1 < k → ((List.getD x.outs 0 default) == (List.getD x.outs 1 default)) = false) (h1 : x.outs.length ≤ k) : Value.bool true = .bool (Xc x):=by
 obtain ⟨hk,ht⟩:=node_p hS hk
 refine node_y hk ?_ hI h1
 simp only [Am,ht,Bool.false_or,Bool.and_eq_false_iff]
 by_cases h2 : ((x.outs.length : Nat) : Int) = 2
 ·exact .inr (hJ (by omega))
 ·exact .inl (by simpa using h2)
end
def Cd (g : Graph) (to : Int) : Int:=(List.getD g.nodes to.toNat default).kind
def K4 (g : Graph) (i : Nat) (x : Node) (to : Int) : Bool :=
 decide (((g.nodes.length : Nat) : Int) ≤ to) || (((x.kind == 7) && ((decide (((i : Nat) : Int) < to)) || ((Cd g to != 5) && (Cd g to != 6)))) || ((x.kind != 7) && (decide (to ≤ ((i : Nat) : Int)))))
def atOk (_ : Graph) (i : Nat) (x : Node) : Bool:=!((!(Xc x)) || (!((x.kind == 1) == (((i : Nat) : Int) == 0))))
def Km (g : Graph) (i : Nat) (x : Node) : Bool:=atOk g i x && x.outs.all (fun to=>!K4 g i x to)
def C0 (g : Graph) : Bool:=((!(Y2 ((g.nodes.length : Nat) : Int) 1 8)) || (!(Y2 g.workers 1 4))) || (!(Y2 g.cap 1 4))
def Yr (g : Graph) : Bool:=!C0 g && (List.range g.nodes.length).all (fun i=>Km g i (List.getD g.nodes i default))
section
variable {g : Graph} {i k : Nat}
theorem X2 {α : Type} [Inhabited α] {xs : List α} {i : Nat} (h : i < xs.length) : List.getD xs i default = xs[i]:=by simp [List.getD,h]
theorem graph_h (h : C0 g = true) : Value.bool false = .bool (Yr g):=by simp [Yr,h]
theorem graph_n {h1 : i < g.nodes.length} (h : Km g i g.nodes[i] = false) : Value.bool false = .bool (Yr g):=by
 have : (List.range g.nodes.length).all (fun i=>Km g i (List.getD g.nodes i default)) = false:=by
  rw [List.all_eq_false];exact ⟨i,by simpa using h1,by rw [X2 h1,h];simp⟩
 simp only [Yr,this,Bool.and_false]
theorem graph_a {h1 : i < g.nodes.length} (h : ((!(Xc g.nodes[i])) || (!((g.nodes[i].kind == 1) == (((i : Nat) : Int) == 0)))) = true) : Value.bool false = .bool (Yr g):=graph_n (h1:=h1) (by
 simp only [Km,atOk,h];simp)
theorem graph_e {h1 : i < g.nodes.length} {h2 : k < g.nodes[i].outs.length} (h : K4 g i g.nodes[i] (g.nodes[i].outs[k]) = true) : Value.bool false = .bool (Yr g):=graph_n (h1:=h1) (by
 have : g.nodes[i].outs.all (fun to=>!K4 g i g.nodes[i] to) = false:=by
  rw [List.all_eq_false];exact ⟨_,List.getElem_mem h2,by simp [h]⟩
 simp only [Km,this,Bool.and_false])
theorem graph_s {h1 : i < g.nodes.length} (ha : ((!(Xc g.nodes[i])) || (!((g.nodes[i].kind == 1) == (((i : Nat) : Int) == 0)))) = false) (hI : (g.nodes[i].outs.take k).all (fun to=>!K4 g i g.nodes[i] to) = true) (hk : g.nodes[i].outs.length ≤ k)
  (hp : ∀ j,j < i → Km g j (List.getD g.nodes j default) = true) : ∀ j,j < i + 1 → Km g j (List.getD g.nodes j default) = true:=fun j hj=>by
 by_cases e : j = i
 ·subst e
  rw [List.take_of_length_le hk] at hI
  rw [X2 h1];simp only [Km,atOk,ha,hI];simp
 ·exact hp j (by omega)
theorem graph_y (hh : C0 g = false) (hp : ∀ j,j < i → Km g j (List.getD g.nodes j default) = true) (hi : g.nodes.length ≤ i) : Value.bool true = .bool (Yr g):=by
 have : (List.range g.nodes.length).all (fun i=>Km g i (List.getD g.nodes i default)) = true:=by
  rw [List.all_eq_true];intro j hj;exact hp j (by have:=List.mem_range.1 hj;omega)
 simp only [Yr,this,hh];simp
theorem edge_a {x : Node} {to : Int} (h : decide (((g.nodes.length : Nat) : Int) ≤ to) = true) : K4 g i x to = true:=by simp only [K4,h,Bool.true_or]
theorem edge_b {x : Node} {to K : Int} (hK : K = Cd g to) (h : (((x.kind == 7) && ((decide (((i : Nat) : Int) < to)) || ((K != 5) && (K != 6)))) || ((x.kind != 7) && (decide (to ≤ ((i : Nat) : Int))))) = true) : K4 g i x to = true:=by
 subst hK;simp only [K4,h,Bool.or_true]
theorem edge_n {x : Node} {to K : Int} (hK : K = Cd g to) (h1 : decide (((g.nodes.length : Nat) : Int) ≤ to) = false) (h : (((x.kind == 7) && ((decide (((i : Nat) : Int) < to)) || ((K != 5) && (K != 6)))) || ((x.kind != 7) && (decide (to ≤ ((i : Nat) : Int))))) = false) : (!K4 g i x to) = true:=by
 subst hK;simp only [K4,h,h1,Bool.or_false,Bool.not_false]
theorem edge_s1 {x : Node} {to : Int} (h : ((decide (((g.nodes.length : Nat) : Int) ≤ to)) || ((x.kind != 7) && (decide (to ≤ ((i : Nat) : Int))))) = true) : K4 g i x to = true:=by
 rcases Bool.or_eq_true _ _ ▸ h with h | h
 ·exact edge_a h
 ·simp only [K4,h,Bool.or_true]
theorem edge_s2 {x : Node} {to K : Int} (hK : K = Cd g to) (h : ((x.kind == 7) && ((decide (((i : Nat) : Int) < to)) || ((K != 5) && (K != 6)))) = true) : K4 g i x to = true:=edge_b hK (by rw [h];rfl)
theorem edge_sn {x : Node} {to K : Int} (hK : K = Cd g to) (h1 : ((decide (((g.nodes.length : Nat) : Int) ≤ to)) || ((x.kind != 7) && (decide (to ≤ ((i : Nat) : Int))))) = false) (h : ((x.kind == 7) && ((decide (((i : Nat) : Int) < to)) || ((K != 5) && (K != 6)))) = false) : (!K4 g i x to) = true :=
 edge_n hK (Bool.or_eq_false_iff.1 h1).1 (by rw [h,(Bool.or_eq_false_iff.1 h1).2];rfl)
theorem edge_lt {n to : Int} {q : Bool} (h : ((decide (n ≤ to)) || q) = false) : to < n:=by
 have:=of_decide_eq_false (Bool.or_eq_false_iff.1 h).1
 omega
theorem graph_to {h1 : i < g.nodes.length} {h2 : k < g.nodes[i].outs.length} (ha : ((!(Xc g.nodes[i])) || (!((g.nodes[i].kind == 1) == (((i : Nat) : Int) == 0)))) = false) : 0 ≤ g.nodes[i].outs[k]:=by
 have hn : Xc g.nodes[i] = true:=by simpa using (Bool.or_eq_false_iff.1 ha).1
 simp only [Xc,Bool.and_eq_true,List.all_eq_true] at hn
 have:=hn.2 _ (List.getElem_mem h2)
 simp only [Y2,Bool.and_eq_true,decide_eq_true_eq] at this
 exact this.1
end
def ofE (e : Int) (r : Record) : Bool:=r.stamp.epoch == e
def Ul (x : Worker) (e : Int) : Int:=IntKind.i64.wrap (((x.queue.filter (ofE e)).length : Int) + ((x.staged.filter (ofE e)).length : Int))
def Uu (x : Worker) (e : Int) : Bool:=x.inputs.any fun r=>decide (r.stamp.epoch ≤ e)
def idle (x : Worker) : Bool:=(x.queue.length == 0) && (x.staged.length == 0) && (x.inputs.length == 0)
def Ce (x : Worker) (e : Int) : Bool:=x.dones.any fun d=>d.epoch == e
def mkInt (k : Nat) : Int:=((k : Nat) : Int)
def mkBool (k : Nat) : Bool:=Int.tmod ((k : Nat) : Int) 3 == 0
def Ts (k : Nat) : Record:=⟨((k : Nat) : Int),⟨((k + 1 : Nat) : Int),((k + 1 + 1 : Nat) : Int)⟩,((k + 1 + 1 + 1 : Nat) : Int),((k + 1 + 1 + 1 + 1 : Nat) : Int)⟩
def mkDone (k : Nat) : Done:=⟨((k : Nat) : Int),Int.tmod ((k + 1 : Nat) : Int) 3 == 0⟩
def mkToken (k : Nat) : Token:=⟨Int.tmod ((k : Nat) : Int) 3 == 0,((k + 1 : Nat) : Int),((k + 1 + 1 : Nat) : Int),Int.tmod ((k + 1 + 1 + 1 : Nat) : Int) 3 == 0,Int.tmod ((k + 1 + 1 + 1 + 1 : Nat) : Int) 3 == 0⟩
def mkNews (k : Nat) : News:=⟨((k : Nat) : Int),((k + 1 : Nat) : Int),Int.tmod ((k + 1 + 1 : Nat) : Int) 3 == 0⟩
def numW (k : Nat) (x : Worker) : Nat:=k + 5 * x.queue.length + 5 * x.staged.length + 5 * x.inputs.length + 4 * x.cells.length + 1 * x.sums.length + 1 * x.black.length + 1 * x.caps.length + 2 * x.dones.length
def markW (k : Nat) (x : Worker) : Worker :=
 ⟨mkL 5 Ts k x.queue.length,mkL 5 Ts (k + 5 * x.queue.length) x.staged.length,mkL 5 Ts (k + 5 * x.queue.length + 5 * x.staged.length) x.inputs.length,
  mkL 4 mkCell (k + 5 * x.queue.length + 5 * x.staged.length + 5 * x.inputs.length) x.cells.length,mkL 1 mkInt (k + 5 * x.queue.length + 5 * x.staged.length + 5 * x.inputs.length + 4 * x.cells.length) x.sums.length,
  mkL 1 mkBool (k + 5 * x.queue.length + 5 * x.staged.length + 5 * x.inputs.length + 4 * x.cells.length + 1 * x.sums.length) x.black.length,
  mkL 1 mkBool (k + 5 * x.queue.length + 5 * x.staged.length + 5 * x.inputs.length + 4 * x.cells.length + 1 * x.sums.length + 1 * x.black.length) x.caps.length,
  mkL 2 mkDone (k + 5 * x.queue.length + 5 * x.staged.length + 5 * x.inputs.length + 4 * x.cells.length + 1 * x.sums.length + 1 * x.black.length + 1 * x.caps.length) x.dones.length⟩
theorem Hp {α : Type} {xs : List α} {p : α → Bool} {k : Nat} (hI : (xs.take k).any p = false) (h1 : k < xs.length) (h : p xs[k] = false) : (xs.take (k + 1)).any p = false:=by
 rw [List.take_succ_eq_append_getElem h1,List.any_append,hI];simp [h]
theorem any_yes {α : Type} {xs : List α} {p : α → Bool} {k : Nat} (h1 : k < xs.length) (h : p xs[k] = true) : Value.bool true = .bool (xs.any p):=by
 congr 1;symm;rw [List.any_eq_true]
 exact ⟨_,List.getElem_mem h1,h⟩
theorem any_no {α : Type} {xs : List α} {p : α → Bool} {k : Nat} (hI : (xs.take k).any p = false) (h1 : xs.length ≤ k) : Value.bool false = .bool (xs.any p):=by
 rw [List.take_of_length_le h1] at hI;rw [hI]
def Cr {α : Type} (xs : List α) (p : α → Bool) : Int:=if xs.any p then ((xs.findIdx p : Nat) : Int) else -1
theorem find_yes {α : Type} {xs : List α} {p : α → Bool} {k : Nat} (hI : (xs.take k).any p = false) (h1 : k < xs.length) (h : p xs[k] = true) : Value.int .i64 ((k : Nat) : Int) = .int .i64 (Cr xs p):=by
 have ha : xs.any p = true:=by rw [List.any_eq_true];exact ⟨_,List.getElem_mem h1,h⟩
 have : xs.findIdx p = k:=by
  rw [List.findIdx_eq h1]
  refine ⟨h,fun j hj=>?_⟩
  rw [List.any_eq_false] at hI
  have:=hI xs[j] (by rw [List.mem_take_iff_getElem];exact ⟨j,by omega,rfl⟩)
  simpa using this
 simp [Cr,ha,this]
theorem find_no {α : Type} {xs : List α} {p : α → Bool} {k : Nat} (hI : (xs.take k).any p = false) (h1 : xs.length ≤ k) : Value.int .i64 (-1) = .int .i64 (Cr xs p):=by
 rw [List.take_of_length_le h1] at hI;simp [Cr,hI]
theorem any_find {α : Type} {xs : List α} {p : α → Bool} : Value.bool (decide (0 ≤ Cr xs p)) = .bool (xs.any p):=by
 unfold Cr
 cases h : xs.any p <;> simp
def Yo (s : Stamp) : Bool:=Y2 s.epoch 0 3 && Y2 s.turn 0 6
def Yx (r : Record) : Bool:=(Y2 r.op 0 7 && Yo r.stamp) && (Y2 r.key 0 99 && Y2 r.val 0 999)
def Xw (g : Graph) (op : Int) : Bool:=Y2 op 0 (((g.nodes.length : Nat) : Int) - 1)
def X0 (g : Graph) (r : Record) : Bool:=Yx r && Xw g r.op
def Y8 (s : Stamp) : Stamp × Bool:=if (!(Yo s) || (s.turn == 6)) = true then (s,false) else (⟨s.epoch,s.turn + 1⟩,true)
theorem Gw {n lo hi : Int} : Y2 n lo hi = true ↔ lo ≤ n ∧ n ≤ hi:=by simp [Y2]
theorem win_hi {s : Stamp} (h : Yo s = true) : 0 ≤ s.turn ∧ s.turn ≤ 6:=by
 simp only [Yo,Bool.and_eq_true,Gw] at h;omega
theorem nt_ge {s : Stamp} (h : (!(Yo s) || decide (6 ≤ s.turn)) = true) : (!(Yo s) || (s.turn == 6)) = true:=by
 cases hs : Yo s with
 | false=>rfl
 | true =>
  have:=win_hi hs
  simp [hs] at h ⊢;omega
theorem nt_lt {s : Stamp} (h : (!(Yo s) || decide (6 ≤ s.turn)) = false) : (!(Yo s) || (s.turn == 6)) = false:=by
 cases hs : Yo s with
 | false=>simp [hs] at h
 | true=>simp [hs] at h ⊢;omega
theorem op_yes {g : Graph} {r : Record} (h : (!(Yx r) || decide (((g.nodes.length : Nat) : Int) ≤ r.op)) = false) : X0 g r = true:=by
 simp only [Bool.or_eq_false_iff,Bool.not_eq_false',decide_eq_false_iff_not] at h
 have h1:=h.1
 simp only [Yx,Bool.and_eq_true,Gw] at h1
 simp only [X0,h.1,Xw,Bool.true_and,Gw];omega
theorem op_no {g : Graph} {r : Record} (h : (!(Yx r) || decide (((g.nodes.length : Nat) : Int) ≤ r.op)) = true) : X0 g r = false:=by
 cases h1 : Yx r with
 | false=>simp [X0,h1]
 | true =>
  simp [h1] at h
  simp only [X0,h1,Xw,Bool.true_and,Y2,Bool.and_eq_false_iff,decide_eq_false_iff_not];omega
theorem bf {a : Bool} (h : a = true → False) : Value.bool false = .bool a:=by cases a <;> simp_all
theorem bt {a : Bool} (h : a = true) : Value.bool true = .bool a:=by rw [h]
def Gm (n : Nat) (P : Nat → Bool) : Bool:=(List.range n).all P
theorem Av {n : Nat} {P : Nat → Bool} (h : Gm n P = true) (hp : P n = true) : Gm (n + 1) P = true:=by
 simp only [Gm,List.range_succ,List.all_append] at *
 simp [h,hp]
theorem V9 {n j : Nat} {P : Nat → Bool} (h : Gm n P = true) (hj : j < n) : P j = true:=List.all_eq_true.1 h j (List.mem_range.2 hj)
theorem T1 {n m : Nat} {P : Nat → Bool} (h : Gm n P = true) (hm : m ≤ n) : Gm m P = true:=List.all_eq_true.2 fun j hj=>V9 h (by have:=List.mem_range.1 hj;omega)
theorem all_end {α : Type} {xs : List α} {p : α → Bool} {k : Nat} (hI : (xs.take k).all p = true) (h1 : xs.length ≤ k) : xs.all p = true:=by rwa [List.take_of_length_le h1] at hI
def inAt (xs : List Record) (j : Nat) : Bool :=
 !((((List.getD xs j default).op != 0) || ((List.getD xs j default).stamp.turn != 0)) || (decide (0 < ((j : Nat) : Int)) && decide ((List.getD xs j default).stamp.epoch < (List.getD xs (j - 1) default).stamp.epoch)))
theorem Cz {xs : List Record} {j : Nat} (h : j < xs.length) : inAt xs j = !(((xs[j].op != 0) || (xs[j].stamp.turn != 0)) || (decide (0 < ((j : Nat) : Int)) && decide (xs[j].stamp.epoch < (List.getD xs (j - 1) default).stamp.epoch))):=by
 simp only [inAt,X2 h]
def Va (xs : List Done) (j : Nat) : Bool:=!(!(Y2 (List.getD xs j default).epoch 0 3) || (xs.take j).any (fun d=>d.epoch == (List.getD xs j default).epoch))
theorem Vj {xs : List Done} {j : Nat} (h : j < xs.length) : Va xs j = !(!(Y2 xs[j].epoch 0 3) || (xs.take j).any (fun d=>d.epoch == xs[j].epoch)):=by
 simp only [Va,X2 h]
def Yv (g : Graph) (x : Worker) : Bool :=
 x.queue.all (X0 g) && x.staged.all (X0 g) && x.inputs.all (X0 g) && (G9 x.cells).all X6 && Gm x.inputs.length (fun j=>inAt x.inputs j) &&
  (((x.sums.length : Nat) : Int) == 4) && (((x.black.length : Nat) : Int) == 4) && (((x.caps.length : Nat) : Int) == 4) && x.sums.all (Y2 · (-1000000) 1000000) && Gm x.dones.length (fun j=>Va x.dones j)
theorem wk_yes1 {g : Graph} {x : Worker} (h1 : (((!(x.queue.all (X0 g)) || !(x.staged.all (X0 g))) || !(x.inputs.all (X0 g))) || !((G9 x.cells).all X6)) = false) (h2 : Gm x.inputs.length (fun j=>inAt x.inputs j) = true)
  (h3 : (((((x.sums.length : Nat) : Int) != 4) || (((x.black.length : Nat) : Int) != 4)) || (((x.caps.length : Nat) : Int) != 4)) = false) (h4 : x.sums.all (Y2 · (-1000000) 1000000) = true) (h5 : Gm x.dones.length (fun j=>Va x.dones j) = true) :
  Value.bool true = .bool (Yv g x):=by
 simp only [Bool.or_eq_false_iff,Bool.not_eq_false',bne_eq_false_iff_eq] at h1 h3
 obtain ⟨⟨⟨a1,a2⟩,a3⟩,a4⟩:=h1
 obtain ⟨⟨b1,b2⟩,b3⟩:=h3
 exact bt (by simp only [Yv,a1,a2,a3,a4,h2,b1,b2,b3,h4,h5];rfl)
section
variable {x y : Worker}
end
theorem wk_len {g : Graph} {x : Worker} (h : ((((((!(x.queue.all (X0 g)) || !(x.staged.all (X0 g))) || !(x.inputs.all (X0 g))) || !((G9 x.cells).all X6)) || (((x.sums.length : Nat) : Int) != 4)) || (((x.black.length : Nat) : Int) != 4)) || (((x.caps.length : Nat) : Int) != 4)) = false) : x.sums.length = 4:=by
 simp at h;omega
theorem wk_yes2 {g : Graph} {x : Worker} (h : ((((((!(x.queue.all (X0 g)) || !(x.staged.all (X0 g))) || !(x.inputs.all (X0 g))) || !((G9 x.cells).all X6)) || (((x.sums.length : Nat) : Int) != 4)) || (((x.black.length : Nat) : Int) != 4)) || (((x.caps.length : Nat) : Int) != 4)) = false) (h2 : Gm x.inputs.length (fun j=>inAt x.inputs j) = true)
  (h4 : x.sums.all (Y2 · (-1000000) 1000000) = true) (h5 : Gm x.dones.length (fun j=>Va x.dones j) = true) : Value.bool true = .bool (Yv g x):=by
 simp only [Bool.or_eq_false_iff,Bool.not_eq_false',bne_eq_false_iff_eq] at h
 obtain ⟨⟨⟨⟨⟨⟨a1,a2⟩,a3⟩,a4⟩,b1⟩,b2⟩,b3⟩:=h
 exact bt (by simp only [Yv,a1,a2,a3,a4,h2,b1,b2,b3,h4,h5];rfl)
section
variable {xs : List Done} {i j : Nat}
theorem done_s {h1 : i < xs.length} (hw : (!(Y2 xs[i].epoch 0 3)) = false) (hJ : (xs.take j).any (fun d=>d.epoch == xs[i].epoch) = false) (hj : i ≤ j) : Va xs i = true:=by
 rw [Vj h1,hw]
 have : (xs.take i).any (fun d=>d.epoch == xs[i].epoch) = false:=by
  rw [List.any_eq_false] at *
  intro d hd
  refine hJ d ?_
  rw [List.mem_take_iff_getElem] at *
  obtain ⟨q,hq,rfl⟩:=hd
  exact ⟨q,by omega,rfl⟩
 simp [this]
theorem done_n {h1 : i < xs.length} {h2 : j < xs.length} (h : Va xs i = true) (hj : j < i) (he : (xs[j].epoch == xs[i].epoch) = true) : False:=by
 rw [Vj h1] at h
 have : (xs.take i).any (fun d=>d.epoch == xs[i].epoch) = true:=by
  rw [List.any_eq_true]
  exact ⟨xs[j],by rw [List.mem_take_iff_getElem];exact ⟨j,by omega,rfl⟩,he⟩
 simp [this] at h
end
theorem Vt {g : Graph} {op : Int} (h : Xw g op = true) : 0 ≤ op ∧ op < ((g.nodes.length : Nat) : Int) ∧ Int.toNat op < g.nodes.length:=by
 simp only [Xw,Gw] at h;omega
theorem isN_w {n : Nat} (h : n ≤ maxLen) : IntKind.i64.wrap (((n : Nat) : Int) - 1) = ((n : Nat) : Int) - 1:=by
 unfold maxLen at h
 rw [Ke (by omega) (by omega)]
def Qj (g : Graph) (op : Int) : Node × Bool:=if Xw g op = true then (List.getD g.nodes (Int.toNat op) default,true) else (⟨0,0,0,[]⟩,false)
theorem nodeOf_no {g : Graph} {op : Int} (h : Xw g op = false) : Qj g op = (⟨0,0,0,[]⟩,false):=by simp [Qj,h]
theorem nodeOf_yes {g : Graph} {op : Int} (h : 0 ≤ op ∧ op < ((g.nodes.length : Nat) : Int) ∧ Int.toNat op < g.nodes.length) : Qj g op = (g.nodes[Int.toNat op]'h.2.2,true):=by
 have : Xw g op = true:=by simp only [Xw,Gw];omega
 simp [Qj,this,List.getD,h.2.2]
theorem nodeOf_two {g : Graph} {op : Int} : (Qj g op).2 = Xw g op:=by
 unfold Qj;cases h : Xw g op <;> simp
theorem mem_cnt {α : Type} {f : α → Nat} : ∀ {xs : List α} {x : α},x ∈ xs → f x ≤ (xs.map f).sum
 | y :: ys,x,h=>by
  rcases List.mem_cons.1 h with rfl | h
  ·simp
  ·have:=mem_cnt (f:=f) h;simp;omega
theorem outs_le {g : Graph} {x : Node} (h : Uq g ≤ 1048576) (hx : x ∈ g.nodes) : x.outs.length ≤ 1048576:=by
 have:=mem_cnt (f:=Tx) hx
 simp only [Uq,cntL] at h
 simp only [Tx] at this;omega
def G4 (g : Graph) (r : Record) : Bool:=((((((Qj g r.op).2 && Yr g) && Yx r) && ((Qj g r.op).1.kind == 7)) && decide (0 < (((Qj g r.op).1.outs.length : Nat) : Int))) && !(Y8 r.stamp).2)
def addOut (f : List Int) (k : Int) : List Int:=if k ∈ f then f else f ++ [k]
def addOuts (f outs : List Int) : List Int:=outs.foldl addOut f
def reachGo (g : Graph) : Nat → Nat → List Int → List Int
 | 0,_,f=>f
 | n + 1,i,f=>if i < f.length then reachGo g n (i + 1) (addOuts f (List.getD g.nodes (Int.toNat (List.getD f i default)) default).outs) else f
def reachL (g : Graph) (a : Int) : List Int:=reachGo g 10 0 (List.getD g.nodes (Int.toNat a) default).outs
def reaches (g : Graph) (a b : Int) : Bool:=(Yr g && Xw g a) && decide (b ∈ reachL g a)
def GoodF (g : Graph) (f0 f : List Int) : Prop:=(∃ nw,f = f0 ++ nw ∧ nw.Nodup) ∧ ∀ x ∈ f,0 ≤ x ∧ x < ((g.nodes.length : Nat) : Int)
section
variable {g : Graph} {f0 f f2 outs : List Int} {i j n : Nat} {a b k : Int}
theorem gok_len (h : Yr g = true) : 1 ≤ g.nodes.length ∧ g.nodes.length ≤ 8:=by
 simp only [Yr,C0,Bool.and_eq_true,Bool.not_eq_true',Bool.or_eq_false_iff,Bool.not_eq_false'] at h
 have:=Gw.1 h.1.1.1;omega
theorem gok_at (h : Yr g = true) (hi : i < g.nodes.length) : Km g i g.nodes[i] = true:=by
 simp only [Yr,Bool.and_eq_true] at h
 have:=List.all_eq_true.1 h.2 i (List.mem_range.2 hi)
 rwa [X2 hi] at this
theorem gok_outs (h : Yr g = true) (hi : i < g.nodes.length) : ∀ x ∈ g.nodes[i].outs,0 ≤ x ∧ x < ((g.nodes.length : Nat) : Int):=fun x hx=>by
 have hn:=gok_at h hi
 simp only [Km,atOk,Bool.and_eq_true,Bool.not_eq_true',Bool.or_eq_false_iff,Bool.not_eq_false'] at hn
 have h1:=hn.1.1
 simp only [Xc,Bool.and_eq_true] at h1
 have h2:=Gw.1 (List.all_eq_true.1 h1.2 x hx)
 have h3:=List.all_eq_true.1 hn.2 x hx
 simp only [K4,Bool.not_eq_true',Bool.or_eq_false_iff,decide_eq_false_iff_not] at h3
 omega
theorem Ai (h : Yr g = true) (hi : i < g.nodes.length) : (List.getD g.nodes i default).outs.length ≤ 2:=by
 have hn:=gok_at h hi
 simp only [Km,atOk,Bool.and_eq_true,Bool.not_eq_true',Bool.or_eq_false_iff,Bool.not_eq_false'] at hn
 have h1:=hn.1.1
 simp only [Xc,Am,Bool.and_eq_true,Bool.not_eq_true',Bool.or_eq_false_iff,decide_eq_false_iff_not] at h1
 rw [X2 hi];omega
end
def hasLoopM (g : Graph) : Bool:=!Gm g.nodes.length (fun j=>!reaches g ((j : Nat) : Int) ((j : Nat) : Int))
def numNd (k : Nat) (x : Node) : Nat:=k + 1 * x.outs.length
def markNd (k : Nat) (x : Node) : Node:=⟨x.kind,x.a,x.b,mkL 1 mkInt k x.outs.length⟩
def markN1 (k : Nat) (x : Node) : Node:=⟨((k : Nat) : Int),((k + 1 : Nat) : Int),((k + 1 + 1 : Nat) : Int),mkL 1 mkInt (k + 1 + 1 + 1) x.outs.length⟩
def Bd (k : Nat) (x : Node) : Nat:=k + 1 + 1 + 1 + 1 * x.outs.length
def Cb {α : Type} (n : Nat → α → Nat) : Nat → List α → Nat
 | k,[]=>k
 | k,x :: xs=>Cb n (n k x) xs
def markA {α : Type} (n : Nat → α → Nat) (m : Nat → α → α) : Nat → List α → List α
 | _,[]=>[]
 | k,x :: xs=>m k x :: markA n m (n k x) xs
section
variable {α : Type} {n : Nat → α → Nat} {m : Nat → α → α} {cnt : α → Nat} {c : Nat}
end
def numL1 (k : Nat) (x : Link) : Nat:=k + 1 + 5 * x.queue.length + 1 + 1 + 1 + 1
def markL1 (k : Nat) (x : Link) : Link:=⟨((k : Nat) : Int),mkL 5 Ts (k + 1) x.queue.length,((k + 1 + 5 * x.queue.length : Nat) : Int),((k + 1 + 5 * x.queue.length + 1 : Nat) : Int),((k + 1 + 5 * x.queue.length + 1 + 1 : Nat) : Int),((k + 1 + 5 * x.queue.length + 1 + 1 + 1 : Nat) : Int)⟩
def numCl (k : Nat) (x : Cluster) : Nat:=Cb numL1 (Cb numW (Cb Bd k x.graph.nodes) x.workers) x.links + 5 * x.tokens.length + 3 * x.news.length
def markCl (k : Nat) (x : Cluster) : Cluster :=
 ⟨⟨markA Bd markN1 k x.graph.nodes,x.graph.workers,x.graph.cap⟩,markA numW markW (Cb Bd k x.graph.nodes) x.workers,markA numL1 markL1 (Cb numW (Cb Bd k x.graph.nodes) x.workers) x.links,
  mkL 5 mkToken (Cb numL1 (Cb numW (Cb Bd k x.graph.nodes) x.workers) x.links) x.tokens.length,mkL 3 mkNews (Cb numL1 (Cb numW (Cb Bd k x.graph.nodes) x.workers) x.links + 5 * x.tokens.length) x.news.length⟩
def outsTo (g : Graph) (k : Nat) : List Int:=((List.range k).filter (fun i=>(List.getD g.nodes i default).kind == 8)).map fun i=>((i : Nat) : Int)
def outOf (g : Graph) (x : Cell) : Bool:=Xw g x.op && ((List.getD g.nodes (Int.toNat x.op) default).kind == 8)
def Yk (xs : List Record) : Worker:=⟨[],[],xs,[],[0,0,0,0],[false,false,false,false],[false,false,false,false],[]⟩
def Kn (x : Worker) (r : Record) : Worker:=⟨x.queue ++ [r],x.staged,x.inputs,x.cells,x.sums,x.black,x.caps,x.dones⟩
theorem cnt_new (xs : List Record) : Q6 (Yk xs) = xs.length + 12:=by simp [Q6,Yk]
theorem sent_of {n : Nat} {e : Int} (hm : n ≤ maxLen) (h : Y2 e 0 (IntKind.i64.wrap (((n : Nat) : Int) - 1)) = true) : 0 ≤ e ∧ e < ((n : Nat) : Int) ∧ Int.toNat e < n:=by
 rw [isN_w hm] at h
 have:=Gw.1 h
 omega
def sentW (x : Worker) (e : Int) : Worker:=if 0 ≤ e ∧ e < ((x.sums.length : Nat) : Int) then ⟨x.queue,x.staged,x.inputs,x.cells,x.sums.set (Int.toNat e) (IntKind.i64.wrap (List.getD x.sums (Int.toNat e) default + 1)),x.black,x.caps,x.dones⟩ else x
def Gj (x : Worker) (r : Record) : Prop:=0 ≤ r.stamp.epoch ∧ r.stamp.epoch < ((x.sums.length : Nat) : Int) ∧ r.stamp.epoch < ((x.black.length : Nat) : Int) ∧ Int.toNat r.stamp.epoch < x.sums.length ∧ Int.toNat r.stamp.epoch < x.black.length
instance (x : Worker) (r : Record) : Decidable (Gj x r):=by unfold Gj;infer_instance
def Gn (x : Worker) (r : Record) : Worker:=if Gj x r then ⟨x.queue ++ [r],x.staged,x.inputs,x.cells,x.sums.set (Int.toNat r.stamp.epoch) (IntKind.i64.wrap (List.getD x.sums (Int.toNat r.stamp.epoch) default - 1)),x.black.set (Int.toNat r.stamp.epoch) true,x.caps,x.dones⟩ else Kn x r
theorem recvW_yes {x : Worker} {r : Record} (h : Gj x r) : Gn x r = ⟨x.queue ++ [r],x.staged,x.inputs,x.cells,x.sums.set (Int.toNat r.stamp.epoch) (IntKind.i64.wrap ((x.sums[Int.toNat r.stamp.epoch]'h.2.2.2.1) - 1)),x.black.set (Int.toNat r.stamp.epoch) true,x.caps,x.dones⟩:=by
 rw [Gn,if_pos h,X2 h.2.2.2.1]
theorem recvW_no {x : Worker} {r : Record} (h : ¬ Gj x r) : Gn x r = Kn x r:=by rw [Gn,if_neg h]
theorem recv_s {x : Worker} {r : Record} (h1 : x.sums.length ≤ maxLen) (h : (Y2 r.stamp.epoch 0 (IntKind.i64.wrap (((x.sums.length : Nat) : Int) - 1)) && decide (r.stamp.epoch < ((x.black.length : Nat) : Int))) = true) : Gj x r:=by
 simp only [Bool.and_eq_true,decide_eq_true_eq] at h
 have:=sent_of h1 h.1
 unfold Gj;omega
theorem recv_sn {x : Worker} {r : Record} (h1 : x.sums.length ≤ maxLen) (h : (Y2 r.stamp.epoch 0 (IntKind.i64.wrap (((x.sums.length : Nat) : Int) - 1)) && decide (r.stamp.epoch < ((x.black.length : Nat) : Int))) = false) : ¬ Gj x r:=fun hx=>by
 unfold Gj at hx
 rw [isN_w h1,Gw.2 ⟨hx.1,by omega⟩,Bool.true_and,decide_eq_false_iff_not] at h
 exact h hx.2.2.1
theorem cnt_recv (x : Worker) (r : Record) : Q6 (Gn x r) = Q6 x + 1:=by unfold Gn;split <;> simp [Q6,Kn] <;> omega
section
variable {x y : Cluster}
end
def goN (xs : List Token) : Nat:=(xs.filter (fun t=>t.going)).length
def defS (e n : Int) (x : Worker) : Int:=if 0 ≤ e ∧ e < ((x.sums.length : Nat) : Int) then IntKind.i64.wrap (n + List.getD x.sums (Int.toNat e) default) else n
def defTo (c : Cluster) (e : Int) (k : Nat) : Int:=(c.workers.take k).foldl (defS e) 0
def linkOk (l : Link) : Bool:=(((((((Y2 l.cap 1 4 && Y2 l.credits 0 l.cap) && Y2 l.back 0 l.cap) && (IntKind.i64.wrap (IntKind.i64.wrap (l.credits + l.back) + ((l.queue.length : Nat) : Int)) == l.cap)) && Y2 l.sent 0 1000000000) && (l.got == l.sent - ((l.queue.length : Nat) : Int))) && decide (0 ≤ l.got)) && l.queue.all Yx)
section
variable {x : Link}
end
def lkBad (g : Graph) (k : Nat) (l : Link) : Bool:=((!(linkOk l) || (l.cap != g.cap)) || !(l.queue.all (X0 g))) || ((IntKind.i64.wrap (Int.tdiv ((k : Nat) : Int) g.workers) == Int.tmod ((k : Nat) : Int) g.workers) && decide (0 < ((l.queue.length : Nat) : Int)))
def tkBad (g : Graph) (t : Token) : Bool:=(!(Y2 t.place 0 (IntKind.i64.wrap (g.workers - 1))) || (!t.going && (t.place != 0))) || !(Y2 t.sum (-1000000) 1000000)
def nwBad (g : Graph) (t : News) : Bool:=!(Y2 t.dest 0 (IntKind.i64.wrap (g.workers - 1))) || !(Y2 t.epoch 0 3)
def clHead (c : Cluster) : Bool:=((!(Yr c.graph) || (((c.workers.length : Nat) : Int) != c.graph.workers)) || (((c.links.length : Nat) : Int) != IntKind.i64.wrap (c.graph.workers * c.graph.workers))) || (((c.tokens.length : Nat) : Int) != 4)
def clOk (c : Cluster) : Bool:=!(clHead c) && c.workers.all (Yv c.graph) && Gm c.links.length (fun j=>!lkBad c.graph j (List.getD c.links j default)) && c.tokens.all (fun t=>!tkBad c.graph t) && c.news.all (fun t=>!nwBad c.graph t)
section
variable {x : Cluster} {k : Nat}
end
section
variable {α : Type} {xs ys : List α} {p : α → Bool} {i j : Nat}
end
def Ah (x y : Cell) : Bool:=decide (Kg y x < 0)
def putAt (xs : List Cell) (x : Cell) : Nat:=xs.findIdx (fun y=>!(Ah x y))
def H3 (xs : List Cell) (x : Cell) : List Cell:=if x ∈ xs then xs else insM xs (putAt xs x) x
section
variable {xs : List Cell} {x : Cell} {k : Nat}
theorem putM_yes (h : decide (x ∈ xs) = true) : H3 xs x = xs:=by rw [H3,if_pos (of_decide_eq_true h)]
theorem put_lt (h : (decide (((k : Nat) : Int) < ((xs.length : Nat) : Int)) && decide (Kg (List.getD xs k default) x < 0)) = true) : k < xs.length:=by
 have:=of_decide_eq_true (Bool.and_eq_true _ _ ▸ h).1
 omega
theorem put_step (hI : (xs.take k).all (Ah x) = true) (h : (decide (((k : Nat) : Int) < ((xs.length : Nat) : Int)) && decide (Kg (List.getD xs k default) x < 0)) = true) : (xs.take (k + 1)).all (Ah x) = true:=by
 have hk:=put_lt h
 refine Vl hI hk ?_
 have:=(Bool.and_eq_true _ _ ▸ h).2
 rw [X2 hk] at this
 exact this
theorem put_at (hI : (xs.take k).all (Ah x) = true) (hk : k ≤ xs.length) (h : (decide (((k : Nat) : Int) < ((xs.length : Nat) : Int)) && decide (Kg (List.getD xs k default) x < 0)) = false) : putAt xs x = k:=by
 have hlt : ∀ j,j < k → ∀ hj : j < xs.length,Ah x xs[j] = true:=fun j h1 hj=>List.all_eq_true.1 hI _ (List.mem_take_iff_getElem.2 ⟨j,by omega,rfl⟩)
 unfold putAt
 by_cases hkl : k < xs.length
 ·rw [List.findIdx_eq hkl]
  refine ⟨?_,fun j hj=>by rw [hlt j hj (by omega)];rfl⟩
  simp only [show decide (((k : Nat) : Int) < ((xs.length : Nat) : Int)) = true from decide_eq_true (by omega),Bool.true_and] at h
  rw [X2 hkl] at h
  show (!(decide (Kg xs[k] x < 0))) = true
  rw [h];rfl
 ·obtain rfl : k = xs.length:=by omega
  rw [List.findIdx_eq_length_of_false]
  intro y hy
  obtain ⟨j,hj,rfl⟩:=List.getElem_of_mem hy
  rw [hlt j hj hj];rfl
theorem putM_no (hn : decide (x ∈ xs) = false) (hI : (xs.take k).all (Ah x) = true) (hk : k ≤ xs.length) (h : (decide (((k : Nat) : Int) < ((xs.length : Nat) : Int)) && decide (Kg (List.getD xs k default) x < 0)) = false) : H3 xs x = insM xs k x:=by
 rw [H3,if_neg (of_decide_eq_false hn),put_at hI hk h]
end
theorem putM_len (xs : List Cell) (x : Cell) : (H3 xs x).length ≤ xs.length + 1:=by
 unfold H3
 split
 ·omega
 ·simp [insM];omega
def Xg (xs : List Cell) (x : Cell) : List Cell × Bool :=
 if ((Yt xs x.op x.epoch x.key).2 && decide ((Yt xs x.op x.epoch x.key).1 ≤ x.val)) = true then (xs,false) else (H3 (xs.filter (fun y=>!(Uf x y))) x,true)
def X8 (kind : Int) (xs : List Cell) (x : Cell) : List Cell × Bool :=
 if (kind == 5) = true ∨ (kind == 8) = true then Xg xs x else if (kind == 6) = true then (H3 xs x,!decide (x ∈ xs)) else (xs,true)
section
variable {kind : Int} {xs : List Cell} {x y : Cell}
theorem K8 (h : ((Yt xs x.op x.epoch x.key).2 && decide ((Yt xs x.op x.epoch x.key).1 ≤ x.val)) = true) : Xg xs x = (xs,false):=by rw [Xg,if_pos h]
theorem V8 (h : ((Yt xs x.op x.epoch x.key).2 && decide ((Yt xs x.op x.epoch x.key).1 ≤ x.val)) = false) : Xg xs x = (H3 (xs.filter (fun y=>!(Uf x y))) x,true):=by rw [Xg,if_neg (by rw [h];simp)]
theorem Hw (h : (kind == 5) = true ∨ (kind == 8) = true) : X8 kind xs x = Xg xs x:=by rw [X8,if_pos h]
theorem six_not (h : (kind == 6) = true) : ¬ ((kind == 5) = true ∨ (kind == 8) = true):=by
 simp only [beq_iff_eq] at *;omega
theorem A9 (h : (kind == 6) = true) : X8 kind xs x = (H3 xs x,!decide (x ∈ xs)):=by rw [X8,if_neg (six_not h),if_pos h]
theorem recallM_h (h : (kind == 6) = true) (hm : decide (x ∈ xs) = true) : X8 kind xs x = (xs,false):=by rw [A9 h,putM_yes hm,hm];rfl
theorem recallM_i (h : (kind == 6) = true) (hm : decide (x ∈ xs) = false) : X8 kind xs x = (H3 xs x,true):=by rw [A9 h,hm];rfl
theorem A8 (h5 : (kind == 5) = false) (h8 : (kind == 8) = false) (h6 : (kind == 6) = false) : X8 kind xs x = (xs,true):=by
 rw [X8,if_neg (by simp [h5,h8]),if_neg (by simp [h6])]
theorem Cu : (Xg xs x).1.length ≤ xs.length + 1:=by
 unfold Xg
 split
 ·simp
 ·exact Nat.le_trans (putM_len _ _) (by have:=List.length_filter_le (fun y=>!(Uf x y)) xs;omega)
theorem recallM_len (kind : Int) (xs : List Cell) (x : Cell) : (X8 kind xs x).1.length ≤ xs.length + 1:=by
 unfold X8
 split
 ·exact Cu
 ·split
  ·exact putM_len _ _
  ·simp
theorem ns_eq : (((y.op != x.op) || (y.epoch != x.epoch)) || (y.key != x.key)) = !(Uf x y):=by
 unfold Uf
 rw [Bool.eq_iff_iff]
 simp [bne,Bool.not_and]
 constructor <;> intro h <;> omega
theorem ns_yes (h : (((y.op != x.op) || (y.epoch != x.epoch)) || (y.key != x.key)) = true) : (fun y=>!(Uf x y)) y = true:=by rw [ns_eq] at h;exact h
theorem ns_no (h : (((y.op != x.op) || (y.epoch != x.epoch)) || (y.key != x.key)) = false) : (fun y=>!(Uf x y)) y = false:=by rw [ns_eq] at h;exact h
end
def Qo (x : Node) (a b : Int) : Int × Int × Bool :=
 if (!(Xc x) || !(Y2 a 0 99 && Y2 b 0 999)) = true then (a,b,false)
 else if (x.kind == 2) = true then (a,(if IntKind.i64.wrap (b + x.a) < 999 then IntKind.i64.wrap (b + x.a) else 999),true)
 else if (x.kind == 4) = true then (Int.tmod (IntKind.i64.wrap (a + x.a)) 100,b,true)
 else if (x.kind == 3) = true then (a,b,Int.tmod a x.a == x.b)
 else (a,b,x.kind != 8)
section
variable {x : Node} {a b : Int}
theorem ch_0 (h : (!(Xc x) || !(Y2 a 0 99 && Y2 b 0 999)) = true) : Qo x a b = (a,b,false):=by rw [Qo,if_pos h]
theorem Td {p : Bool} (h : p = false) : ¬ p = true:=by rw [h];simp
theorem ch_2 (h : (!(Xc x) || !(Y2 a 0 99 && Y2 b 0 999)) = false) (h2 : (x.kind == 2) = true) : Qo x a b = (a,(if IntKind.i64.wrap (b + x.a) < 999 then IntKind.i64.wrap (b + x.a) else 999),true):=by rw [Qo,if_neg (Td h),if_pos h2]
theorem kind_n {n m : Int} (h : (x.kind == n) = true) (hn : n ≠ m) : ¬ (x.kind == m) = true:=by simp only [beq_iff_eq] at *;omega
theorem ch_4 (h : (!(Xc x) || !(Y2 a 0 99 && Y2 b 0 999)) = false) (h4 : (x.kind == 4) = true) : Qo x a b = (Int.tmod (IntKind.i64.wrap (a + x.a)) 100,b,true):=by
 rw [Qo,if_neg (Td h),if_neg (kind_n h4 (by decide)),if_pos h4]
theorem ch_3 (h : (!(Xc x) || !(Y2 a 0 99 && Y2 b 0 999)) = false) (h3 : (x.kind == 3) = true) : Qo x a b = (a,b,Int.tmod a x.a == x.b):=by
 rw [Qo,if_neg (Td h),if_neg (kind_n h3 (by decide)),if_neg (kind_n h3 (by decide)),if_pos h3]
theorem ch_o (h : (!(Xc x) || !(Y2 a 0 99 && Y2 b 0 999)) = false) (h2 : (x.kind == 2) = false) (h4 : (x.kind == 4) = false) (h3 : (x.kind == 3) = false) : Qo x a b = (a,b,x.kind != 8):=by
 rw [Qo,if_neg (Td h),if_neg (Td h2),if_neg (Td h4),if_neg (Td h3)]
theorem ch_s (h : ((!(Xc x) || !(Y2 a 0 99)) || !(Y2 b 0 999)) = false) : (!(Xc x) || !(Y2 a 0 99 && Y2 b 0 999)) = false:=by
 revert h;cases Xc x <;> cases Y2 a 0 99 <;> cases Y2 b 0 999 <;> simp
theorem ch_st (h : ((!(Xc x) || !(Y2 a 0 99)) || !(Y2 b 0 999)) = true) : (!(Xc x) || !(Y2 a 0 99 && Y2 b 0 999)) = true:=by
 revert h;cases Xc x <;> cases Y2 a 0 99 <;> cases Y2 b 0 999 <;> simp
theorem ch_ok (h : (!(Xc x) || !(Y2 a 0 99 && Y2 b 0 999)) = false) : Xc x = true:=by
 simpa using (Bool.or_eq_false_iff.1 h).1
theorem node_a3 (h : Xc x = true) (h3 : (x.kind == 3) = true) : 1 ≤ x.a ∧ x.a ≤ 10:=by
 simp only [Xc,Bool.and_eq_true] at h
 have:=h.1.1
 rw [node_3 h3,Bool.and_eq_true] at this
 exact Gw.1 this.1
theorem min_999 {n : Int} : (if n < 999 then n else 999) = (if 999 < n then 999 else n):=by split <;> split <;> omega
end
def Uv (g : Graph) (x : Cell) : Bool:=((!(Yr g) || !(Xw g x.op)) || !(Y2 x.epoch 0 3)) || !(Y2 x.key 0 99 && Y2 x.val 0 999)
def impCh (g : Graph) (x : Cell) : Int × Int × Bool:=Qo (List.getD g.nodes (Int.toNat x.op) default) x.key x.val
def impTo (g : Graph) (x : Cell) (k : Nat) : List Cell:=((List.getD g.nodes (Int.toNat x.op) default).outs.take k).map fun n=>⟨n,x.epoch,(impCh g x).1,(impCh g x).2.1⟩
def Y7 (g : Graph) (best : List Cell) (x : Cell) : List Cell × List Cell :=
 if Uv g x = true then (best,[]) else if (!((Xg best x).2) || !((impCh g x).2.2)) = true then ((Xg best x).1,[]) else ((Xg best x).1,impTo g x (List.getD g.nodes (Int.toNat x.op) default).outs.length)
section
variable {g : Graph} {xs : List Cell} {x : Cell} {k : Nat}
theorem imp_of (h : Uv g x = false) : Yr g = true ∧ Xw g x.op = true:=by
 simp only [Uv,Bool.or_eq_false_iff,Bool.not_eq_false'] at h
 exact h.1.1
theorem imp_0 (h : Uv g x = true) : Y7 g xs x = (xs,[]):=by rw [Y7,if_pos h]
theorem impTo_len (g : Graph) (x : Cell) (k : Nat) : (impTo g x k).length ≤ k:=by simp only [impTo,List.length_map,List.length_take];omega
theorem improve_len1 : (Y7 g xs x).1.length ≤ xs.length + 1:=by
 unfold Y7
 split
 ·simp
 ·split <;> exact Cu
theorem improve_len2 : (Y7 g xs x).2.length ≤ 2:=by
 unfold Y7
 split
 ·simp
 ·rename_i h
  split
  ·simp
  ·have hq:=imp_of (Bool.eq_false_iff.2 h)
   have:=Ai (i:=Int.toNat x.op) hq.1 (Vt hq.2).2.2
   exact Nat.le_trans (impTo_len _ _ _) this
end
section
variable {g : Graph} {xs : List Cell} {x : Cell} {k : Nat}
theorem nodeOf_1 {op : Int} (h : Xw g op = true) : (Qj g op).1 = List.getD g.nodes (Int.toNat op) default:=by rw [Qj,if_pos h]
theorem Bm (h : (Xg xs x).2 = false) : (Xg xs x).1 = xs:=by
 unfold Xg at *
 split at h
 ·rename_i hq;rw [if_pos hq]
 ·cases h
theorem not_t {p : Bool} (h : (!p) = true) : p = false:=by simpa using h
theorem not_f {p : Bool} (h : (!p) = false) : p = true:=by simpa using h
def icP (g : Graph) (xs : List Cell) (x : Cell) : Bool:=((Y7 g [] x).2).all (nwP xs)
def isClosedM (g : Graph) (xs : List Cell) : Bool:=Yr g && xs.all (icP g xs)
end
def Vc (x : Worker) : Worker × Record × Bool:=if x.staged.length = 0 then (x,⟨0,⟨0,0⟩,0,0⟩,false) else (⟨x.queue,x.staged.drop 1,x.inputs,x.cells,x.sums,x.black,x.caps,x.dones⟩,List.getD x.staged 0 default,true)
theorem unst_no {x : Worker} (h : (((x.staged.length : Nat) : Int) == 0) = true) : Vc x = (x,⟨0,⟨0,0⟩,0,0⟩,false):=by
 have h0 : x.staged.length = 0:=by have:=eq_of_beq h;omega
 rw [Vc,if_pos h0]
theorem unst_lt {x : Worker} (h : (((x.staged.length : Nat) : Int) == 0) = false) : 0 < x.staged.length:=by
 have h0 : ((x.staged.length : Nat) : Int) ≠ 0:=fun e=>by rw [e] at h;cases h
 omega
theorem unst_yes {x : Worker} (h : 0 < x.staged.length) : Vc x = (⟨x.queue,x.staged.drop 1,x.inputs,x.cells,x.sums,x.black,x.caps,x.dones⟩,x.staged[0],true):=by
 rw [Vc,if_neg (by omega),X2 h]
theorem cnt_unst (x : Worker) : Q6 (Vc x).1 ≤ Q6 x:=by
 unfold Vc
 split
 ·exact Nat.le_refl _
 ·simp [Q6]
def Cv (g : Graph) (x : Worker) : Bool:=((((!(Yr g) || !(Yv g x)) || (decide (0 < ((x.staged.length : Nat) : Int)))) || (decide (0 < ((x.queue.length : Nat) : Int)))) || (((x.inputs.length : Nat) : Int) == 0))
def Vw (g : Graph) (x : Worker) : Worker × Bool:=if Cv g x = true then (x,false) else (⟨x.queue ++ [List.getD x.inputs 0 default],x.staged,x.inputs.drop 1,x.cells,x.sums,x.black,x.caps,x.dones⟩,true)
section
variable {g : Graph} {x : Worker}
theorem take_no (h : Cv g x = true) : Vw g x = (x,false):=by rw [Vw,if_pos h]
theorem take_lt (h : Cv g x = false) : 0 < x.inputs.length:=by
 have h1:=(Bool.or_eq_false_iff.1 h).2
 have h0 : ((x.inputs.length : Nat) : Int) ≠ 0:=fun e=>by rw [e] at h1;cases h1
 omega
theorem take_yes (h : Cv g x = false) (hl : 0 < x.inputs.length) : Vw g x = (⟨x.queue ++ [x.inputs[0]],x.staged,x.inputs.drop 1,x.cells,x.sums,x.black,x.caps,x.dones⟩,true):=by
 rw [Vw,if_neg (Td h),X2 hl]
theorem cnt_take : Q6 (Vw g x).1 ≤ Q6 x:=by
 unfold Vw
 split
 ·exact Nat.le_refl _
 ·rename_i h
  have:=take_lt (Bool.eq_false_iff.2 h)
  simp [Q6];omega
end
def He (g : Graph) (r : Record) : Bool:=(!(Yr g) || !(Yx r)) || !(Xw g r.op)
def Ut (g : Graph) (r : Record) : Node:=List.getD g.nodes (Int.toNat r.op) default
def stCh (g : Graph) (r : Record) : Int × Int × Bool:=Qo (Ut g r) r.key r.val
def stRec (g : Graph) (cs : List Cell) (r : Record) : List Cell × Bool:=X8 (Ut g r).kind cs ⟨r.op,r.stamp.epoch,r.key,r.val⟩
def stTo (g : Graph) (r : Record) (s : Stamp) (k : Nat) : List Record:=((Ut g r).outs.take k).map fun n=>⟨n,s,(stCh g r).1,(stCh g r).2.1⟩
def U5 (g : Graph) (r : Record) : Stamp × Bool:=if ((Ut g r).kind == 7) = true then Y8 r.stamp else (r.stamp,true)
def Kc (g : Graph) (cs : List Cell) (r : Record) : List Cell × List Record × Bool :=
 if He g r = true then (cs,[],false)
 else if (!((stCh g r).2.2) && ((Ut g r).kind != 8)) = true then (cs,[],true)
 else if (!((stRec g cs r).2)) = true then ((stRec g cs r).1,[],true)
 else ((stRec g cs r).1,if (U5 g r).2 = true then stTo g r (U5 g r).1 (Ut g r).outs.length else [],true)
def Ge (g : Graph) (r : Record) (k : Nat) : List Record:=if (U5 g r).2 = true then stTo g r (U5 g r).1 k else []
section
variable {g : Graph} {cs : List Cell} {r : Record} {x : Node} {k : Nat}
theorem st_of (h : He g r = false) : Yr g = true ∧ Xw g r.op = true:=by
 simp only [He,Bool.or_eq_false_iff,Bool.not_eq_false'] at h
 exact ⟨h.1.1,h.2⟩
theorem st_0 (h : He g r = true) : Kc g cs r = (cs,[],false):=by rw [Kc,if_pos h]
theorem st_1 (h : He g r = false) (hx : x = Ut g r) (hc : (!((Qo x r.key r.val).2.2) && (x.kind != 8)) = true) : Kc g cs r = (cs,[],true):=by
 subst hx
 have hc' : (!((stCh g r).2.2) && ((Ut g r).kind != 8)) = true:=hc
 rw [Kc,if_neg (Td h),if_pos hc']
theorem st_2 (h : He g r = false) (hx : x = Ut g r) (hc : (!((Qo x r.key r.val).2.2) && (x.kind != 8)) = false) (hq : (!((X8 x.kind cs ⟨r.op,r.stamp.epoch,r.key,r.val⟩).2)) = true) : Kc g cs r = ((X8 x.kind cs ⟨r.op,r.stamp.epoch,r.key,r.val⟩).1,[],true):=by
 subst hx
 have hc' : (!((stCh g r).2.2) && ((Ut g r).kind != 8)) = false:=hc
 have hq' : (!((stRec g cs r).2)) = true:=hq
 rw [Kc,if_neg (Td h),if_neg (Td hc'),if_pos hq'];rfl
theorem st_3 (h : He g r = false) (hx : x = Ut g r) (hc : (!((Qo x r.key r.val).2.2) && (x.kind != 8)) = false) (hq : (!((X8 x.kind cs ⟨r.op,r.stamp.epoch,r.key,r.val⟩).2)) = false) : Kc g cs r = ((X8 x.kind cs ⟨r.op,r.stamp.epoch,r.key,r.val⟩).1,Ge g r x.outs.length,true):=by
 subst hx
 have hc' : (!((stCh g r).2.2) && ((Ut g r).kind != 8)) = false:=hc
 have hq' : (!((stRec g cs r).2)) = false:=hq
 rw [Kc,if_neg (Td h),if_neg (Td hc'),if_neg (Td hq')];rfl
theorem stamp_7 (hx : x = Ut g r) (h : (x.kind == 7) = true) : U5 g r = Y8 r.stamp:=by subst hx;rw [U5,if_pos h]
theorem stamp_o (hx : x = Ut g r) (h : (x.kind == 7) = false) : U5 g r = (r.stamp,true):=by subst hx;rw [U5,if_neg (Td h)]
theorem out_zero : (Ge g r 0).flatMap Enc.enc = []:=by unfold Ge;split <;> simp [stTo]
theorem Tq {s : Stamp} (hs : (U5 g r).1 = s) (hok : (U5 g r).2 = true) (hx : x = Ut g r) (hk : k < x.outs.length) : (Ge g r k).flatMap Enc.enc ++ Enc.enc (⟨x.outs[k],s,(Qo x r.key r.val).1,(Qo x r.key r.val).2.1⟩ : Record) = (Ge g r (k + 1)).flatMap Enc.enc:=by
 subst hx hs
 simp only [Ge,if_pos hok,stTo,stCh]
 rw [List.take_succ_eq_append_getElem hk,List.map_append,List.flatMap_append];simp
theorem out_no (hok : (U5 g r).2 = false) : Ge g r k = []:=by unfold Ge;rw [if_neg (Td hok)]
theorem Hy (g : Graph) (r : Record) (k : Nat) : (Ge g r k).length ≤ k:=by
 unfold Ge
 split
 ·simp only [stTo,List.length_map,List.length_take];omega
 ·simp
theorem T7 (h : ((x.kind == 5) || (x.kind == 6) || (x.kind == 8)) = false) (c : Cell) : X8 x.kind cs c = (cs,true):=by
 simp only [Bool.or_eq_false_iff] at h
 exact A8 h.1.1 h.2 h.1.2
theorem step_len1 : (Kc g cs r).1.length ≤ cs.length + 1:=by
 unfold Kc
 split
 ·simp
 ·split
  ·simp
  ·split <;> exact recallM_len _ _ _
theorem step_len2 : (Kc g cs r).2.1.length ≤ 2:=by
 unfold Kc
 split
 ·simp
 ·rename_i h
  have hq:=st_of (Bool.eq_false_iff.2 h)
  have:=Ai (i:=Int.toNat r.op) hq.1 (Vt hq.2).2.2
  split
  ·simp
  ·split
   ·simp
   ·exact Nat.le_trans (Hy g r _) this
end
section
variable {g : Graph} {cs : List Cell} {r : Record}
theorem st_sp : ((!((Qj g r.op).2) || !(Yr g)) || !(Yx r)) = He g r:=by
 rw [nodeOf_two,He]
 cases Yr g <;> cases Xw g r.op <;> cases Yx r <;> rfl
theorem st_spt (h : ((!((Qj g r.op).2) || !(Yr g)) || !(Yx r)) = true) : He g r = true:=by rw [st_sp] at h;exact h
theorem st_spf (h : ((!((Qj g r.op).2) || !(Yr g)) || !(Yx r)) = false) : He g r = false:=by rw [st_sp] at h;exact h
end
def Gv (g : Graph) (x : Worker) : Bool:=(((!(Yr g) || !(Yv g x)) || (decide (0 < ((x.staged.length : Nat) : Int)))) || (((x.queue.length : Nat) : Int) == 0))
def G6 (x : Worker) : Record:=List.getD x.queue 0 default
def Vh (g : Graph) (x : Worker) : Worker × Bool:=if Gv g x = true then (x,false) else
 (⟨x.queue.drop 1,(Kc g x.cells (G6 x)).2.1,x.inputs,(Kc g x.cells (G6 x)).1,x.sums,x.black,if G4 g (G6 x) = true then x.caps.set (Int.toNat (G6 x).stamp.epoch) true else x.caps,x.dones⟩,true)
section
variable {g : Graph} {x : Worker}
theorem work_no (h : Gv g x = true) : Vh g x = (x,false):=by rw [Vh,if_pos h]
theorem work_lt (h : Gv g x = false) : 0 < x.queue.length:=by
 have h1:=(Bool.or_eq_false_iff.1 h).2
 have h0 : ((x.queue.length : Nat) : Int) ≠ 0:=fun e=>by rw [e] at h1;cases h1
 omega
theorem work_c (h : Gv g x = false) (hl : 0 < x.queue.length) (hc : G4 g x.queue[0] = true) : Vh g x = (⟨x.queue.drop 1,(Kc g x.cells x.queue[0]).2.1,x.inputs,(Kc g x.cells x.queue[0]).1,x.sums,x.black,x.caps.set (Int.toNat x.queue[0].stamp.epoch) true,x.dones⟩,true):=by
 have hr : G6 x = x.queue[0]:=X2 hl
 rw [Vh,if_neg (Td h),hr,if_pos hc]
theorem work_n (h : Gv g x = false) (hl : 0 < x.queue.length) (hc : G4 g x.queue[0] = false) : Vh g x = (⟨x.queue.drop 1,(Kc g x.cells x.queue[0]).2.1,x.inputs,(Kc g x.cells x.queue[0]).1,x.sums,x.black,x.caps,x.dones⟩,true):=by
 have hr : G6 x = x.queue[0]:=X2 hl
 rw [Vh,if_neg (Td h),hr,if_neg (Td hc)]
theorem work_cap (h : Gv g x = false) (hl : 0 < x.queue.length) (hc : G4 g x.queue[0] = true) : 0 ≤ x.queue[0].stamp.epoch ∧ Int.toNat x.queue[0].stamp.epoch < x.caps.length:=by
 simp only [Gv,Bool.or_eq_false_iff,Bool.not_eq_false'] at h
 have hw:=h.1.1.2
 simp only [Yv,Bool.and_eq_true,beq_iff_eq] at hw
 have h8:=hw.1.1.2
 simp only [G4,Bool.and_eq_true] at hc
 have hr:=hc.1.1.1.2
 simp only [Yx,Yo,Bool.and_eq_true,Gw] at hr
 omega
theorem cnt_work : Q6 (Vh g x).1 ≤ Q6 x + 3:=by
 unfold Vh
 split
 ·exact Nat.le_add_right _ _
 ·have h1:=@step_len1 g x.cells (G6 x)
  have h2:=@step_len2 g x.cells (G6 x)
  simp only [Q6,List.length_drop]
  split <;> simp <;> omega
end
def A1 (n a b : Int) : Int:=if (decide (b < a) || decide (n < a)) = true then a else if b < n then b else n
def allM (g : Graph) : Nat → List Cell → List Record → List Cell × List Record × Nat
 | 0,cs,rs=>(cs,rs,0)
 | m + 1,cs,rs=>if rs.length = 0 then (cs,rs,0) else
  ((allM g m (Kc g cs (List.getD rs 0 default)).1 (rs.drop 1 ++ (Kc g cs (List.getD rs 0 default)).2.1)).1,
  (allM g m (Kc g cs (List.getD rs 0 default)).1 (rs.drop 1 ++ (Kc g cs (List.getD rs 0 default)).2.1)).2.1,
  (allM g m (Kc g cs (List.getD rs 0 default)).1 (rs.drop 1 ++ (Kc g cs (List.getD rs 0 default)).2.1)).2.2 + 1)
def stepAllM (g : Graph) (cs : List Cell) (rs : List Record) (most : Int) : List Cell × List Record × Nat:=allM g (Int.toNat (A1 most 0 100000)) cs rs
section
variable {g : Graph} {cs cs0 : List Cell} {rs rs0 : List Record} {r : Record} {k m : Nat}
end
def Hf (op e k : Int) (y : Cell) : Bool:=Uf y ⟨op,e,k,0⟩
def psiF (b : List Cell) (c : Nat) : Nat:=if (Yt b ((c / 400 : Nat) : Int) ((c / 100 % 4 : Nat) : Int) ((c % 100 : Nat) : Int)).2 = true then Int.toNat (Yt b ((c / 400 : Nat) : Int) ((c / 100 % 4 : Nat) : Int) ((c % 100 : Nat) : Int)).1 else 1000
def A5 (f : Nat → Nat) : Nat → Nat
 | 0=>0
 | n + 1=>A5 f n + f n
def psi (b : List Cell) : Nat:=A5 (psiF b) 3200
theorem psiS_eq {f f' : Nat → Nat} : ∀ n,(∀ c,c < n → f' c = f c) → A5 f' n = A5 f n
 | 0,_=>rfl
 | n + 1,h=>by rw [A5,A5,psiS_eq n (fun c hc=>h c (by omega)),h n (by omega)]
theorem psiS_lt {f f' : Nat → Nat} {c0 : Nat} (h0 : f' c0 < f c0) (h : ∀ c,c ≠ c0 → f' c = f c) : ∀ n,c0 < n → A5 f' n < A5 f n
 | 0,hn=>by omega
 | n + 1,hn=>by
  rw [A5,A5]
  by_cases e : c0 = n
  ·subst e
   rw [psiS_eq c0 (fun c hc=>h c (by omega))];omega
  ·have:=psiS_lt h0 h n (by omega)
   rw [h n (by omega)];omega
section
variable {xs : List Cell} {x : Cell} {op e k n : Int} {s : Bool}
theorem U7 : ∀ (xs : List Cell) (n : Int) (s : Bool),Kr op e k xs n s = Kr op e k (xs.filter (Hf op e k)) n s
 | [],_,_=>rfl
 | x :: xs,n,s=>by
  rw [Kr]
  by_cases h : Hf op e k x = true
  ·rw [List.filter_cons_of_pos h,Kr,← U7 xs,← U7 xs]
  ·rw [List.filter_cons_of_neg h,← U7 xs]
   have h' : Uf x ⟨op,e,k,0⟩ = false:=Bool.eq_false_iff.2 h
   rw [h'];simp
theorem Gk (xs : List Cell) : Yt xs op e k = Kr op e k (xs.filter (Hf op e k)) 0 false:=U7 xs 0 false
theorem slot_iff {x y : Cell} : Uf x y = true ↔ x.op = y.op ∧ x.epoch = y.epoch ∧ x.key = y.key:=by
 simp [Uf,and_assoc]
theorem Ti (h : (Xg xs x).2 = true) : Yt (Xg xs x).1 x.op x.epoch x.key = (x.val,true):=by
 have hc : ((Yt xs x.op x.epoch x.key).2 && decide ((Yt xs x.op x.epoch x.key).1 ≤ x.val)) = false:=by
  cases hq : ((Yt xs x.op x.epoch x.key).2 && decide ((Yt xs x.op x.epoch x.key).1 ≤ x.val))
  ·rfl
  ·rw [K8 hq] at h;cases h
 rw [V8 hc]
 have hx : Uf x x = true:=slot_iff.2 ⟨rfl,rfl,rfl⟩
 have hn : x ∉ xs.filter (fun y=>!(Uf x y)):=fun hm=>by
  have:=(List.mem_filter.1 hm).2
  rw [hx] at this;cases this
 have hz : (xs.filter (fun y=>!(Uf x y))).filter (Hf x.op x.epoch x.key) = []:=by
  rw [List.filter_filter,List.filter_eq_nil_iff]
  intro y _ hy
  simp only [Bool.and_eq_true,Bool.not_eq_true'] at hy
  have h1:=slot_iff.1 (show Uf y ⟨x.op,x.epoch,x.key,0⟩ = true from hy.1)
  rw [show Uf x y = true from slot_iff.2 ⟨h1.1.symm,h1.2.1.symm,h1.2.2.symm⟩] at hy
  cases hy.2
 have hs : Hf x.op x.epoch x.key x = true:=slot_iff.2 ⟨rfl,rfl,rfl⟩
 rw [Gk,H3,if_neg hn]
 generalize hl : xs.filter (fun y=>!(Uf x y)) = l at hz
 have ha : (l.take (putAt l x)).filter (Hf x.op x.epoch x.key) = []:=by
  rw [List.filter_eq_nil_iff] at hz ⊢;exact fun y hy=>hz y (List.mem_of_mem_take hy)
 have hb : (l.drop (putAt l x)).filter (Hf x.op x.epoch x.key) = []:=by
  rw [List.filter_eq_nil_iff] at hz ⊢;exact fun y hy=>hz y (List.mem_of_mem_drop hy)
 simp only [insM,List.filter_append,List.filter_cons,ha,hb,hs,if_true,List.nil_append]
 have hs' : Uf x ⟨x.op,x.epoch,x.key,0⟩ = true:=hs
 simp [Kr,hs']
theorem Tz (h : ¬ (op = x.op ∧ e = x.epoch ∧ k = x.key)) : Yt (Xg xs x).1 op e k = Yt xs op e k:=by
 unfold Xg
 split
 ·rfl
 ·have hf : (xs.filter (fun y=>!(Uf x y))).filter (Hf op e k) = xs.filter (Hf op e k):=by
   rw [List.filter_filter]
   refine List.filter_congr fun y _=>?_
   cases hy : Hf op e k y with
   | false=>simp
   | true =>
    have h1:=slot_iff.1 (show Uf y ⟨op,e,k,0⟩ = true from hy)
    have h2 : Uf x y = false:=Bool.eq_false_iff.2 fun hq=>h (by
     have h3:=slot_iff.1 hq
     exact ⟨(h3.1.trans h1.1).symm,(h3.2.1.trans h1.2.1).symm,(h3.2.2.trans h1.2.2).symm⟩)
    rw [h2];rfl
  have hs : Hf op e k x = false:=Bool.eq_false_iff.2 fun hq=>by
   have h1:=slot_iff.1 (show Uf x ⟨op,e,k,0⟩ = true from hq)
   exact h ⟨h1.1.symm,h1.2.1.symm,h1.2.2.symm⟩
  rw [Gk,Gk xs]
  congr 1
  unfold H3
  split
  ·exact hf
  ·rw [← hf]
   generalize xs.filter (fun y=>!(Uf x y)) = l
   simp only [insM,List.filter_append,List.filter_cons,hs]
   simp only [Bool.false_eq_true,if_false]
   rw [← List.filter_append,List.take_append_drop]
theorem psi_better (h : (Xg xs x).2 = true) (ho : 0 ≤ x.op ∧ x.op < 8) (he : 0 ≤ x.epoch ∧ x.epoch ≤ 3) (hk : 0 ≤ x.key ∧ x.key ≤ 99) (hv : 0 ≤ x.val ∧ x.val ≤ 999) : psi (Xg xs x).1 < psi xs:=by
 have hc : ((Yt xs x.op x.epoch x.key).2 && decide ((Yt xs x.op x.epoch x.key).1 ≤ x.val)) = false:=by
  cases hq : ((Yt xs x.op x.epoch x.key).2 && decide ((Yt xs x.op x.epoch x.key).1 ≤ x.val))
  ·rfl
  ·rw [K8 hq] at h;cases h
 refine psiS_lt (c0:=Int.toNat (x.op * 400 + x.epoch * 100 + x.key)) ?_ (fun c hn=>?_) 3200 (by omega)
 ·have e1 : ((Int.toNat (x.op * 400 + x.epoch * 100 + x.key) / 400 : Nat) : Int) = x.op:=by omega
  have e2 : ((Int.toNat (x.op * 400 + x.epoch * 100 + x.key) / 100 % 4 : Nat) : Int) = x.epoch:=by omega
  have e3 : ((Int.toNat (x.op * 400 + x.epoch * 100 + x.key) % 100 : Nat) : Int) = x.key:=by omega
  unfold psiF
  rw [e1,e2,e3,Ti h,if_pos rfl]
  split
  ·rename_i hf
   rw [hf,Bool.true_and,decide_eq_false_iff_not] at hc
   simp only [];omega
  ·simp only [];omega
 ·have hne : ¬ (((c / 400 : Nat) : Int) = x.op ∧ ((c / 100 % 4 : Nat) : Int) = x.epoch ∧ ((c % 100 : Nat) : Int) = x.key):=fun hq=>hn (by omega)
  unfold psiF
  rw [Tz hne]
end
theorem fix_step (g : Graph) (b : List Cell) (x : Cell) : (psi (Y7 g b x).1 + 1 ≤ psi b ∧ (Y7 g b x).1.length ≤ b.length + 1 ∧ (Y7 g b x).2.length ≤ 2) ∨ (Y7 g b x = (b,[])):=by
 have h1:=@improve_len1 g b x
 have h2:=@improve_len2 g b x
 by_cases hb : Uv g x = true
 ·exact .inr (imp_0 hb)
 ·have hq:=imp_of (Bool.eq_false_iff.2 hb)
  have hop:=Vt hq.2
  have hl:=gok_len hq.1
  have hb':=Bool.eq_false_iff.2 hb
  simp only [Uv,Y2,Bool.or_eq_false_iff,Bool.not_eq_false',Bool.and_eq_true,decide_eq_true_eq] at hb'
  by_cases hc : (Xg b x).2 = true
  ·refine .inl ⟨?_,h1,h2⟩
   have:=psi_better hc (by omega) (by omega) (by omega) (by omega)
   rw [Y7,if_neg hb]
   split <;> exact this
  ·have hc':=Bool.eq_false_iff.2 hc
   exact .inr (by rw [Y7,if_neg hb,if_pos (by rw [hc'];rfl),Bm hc'])
def fixGo (g : Graph) (b l : List Cell) : List Cell :=
 match l with
 | []=>b
 | x :: l=>fixGo g (Y7 g b x).1 (l ++ (Y7 g b x).2)
termination_by 3 * psi b + l.length
decreasing_by
 rcases fix_step g b x with h | h
 ·simp only [List.length_append,List.length_cons];omega
 ·rw [h];simp only [List.append_nil,List.length_cons];omega
def fixIn (e : Int) (rs : List Record) : List Cell:=(rs.filter (fun r=>ofE e r && Yx r)).map fun r=>⟨0,e,r.key,r.val⟩
def fixM (g : Graph) (e : Int) (rs : List Record) : List Cell:=fixGo g [] (fixIn e rs)
def fixT (e : Int) (p : Record → Bool) (rs : List Record) (k : Nat) : List Cell:=((rs.take k).filter p).map fun r=>⟨0,e,r.key,r.val⟩
section
variable {g : Graph} {b l : List Cell} {x : Cell} {e : Int} {rs : List Record} {p : Record → Bool} {k : Nat}
end
def inpTo (x : Cluster) (e : Int) (k : Nat) : List Record:=(x.workers.take k).flatMap fun w=>w.inputs.filter (ofE e)
def Hx (k w : Int) : Int:=if w < 1 then 0 else if Int.tmod k w < 0 then Int.tmod k w + w else Int.tmod k w
def linkNew (c : Int) : Link:=⟨A1 c 1 4,[],A1 c 1 4,0,0,0⟩
def sendM (l : Link) (r : Record) : Link × Bool :=
 if linkOk l = true ∧ Yx r = true ∧ l.credits ≠ 0 ∧ l.sent ≠ 1000000000 then (⟨l.cap,l.queue ++ [r],IntKind.i64.wrap (l.credits - 1),l.back,IntKind.i64.wrap (l.sent + 1),l.got⟩,true) else (l,false)
def Tn (l : Link) : Link × Record × Bool :=
 if linkOk l = true ∧ 0 < l.queue.length then (⟨l.cap,l.queue.drop 1,l.credits,IntKind.i64.wrap (l.back + 1),l.sent,IntKind.i64.wrap (l.got + 1)⟩,List.getD l.queue 0 default,true) else (l,⟨0,⟨0,0⟩,0,0⟩,false)
def C2 (l : Link) : Link × Bool :=
 if linkOk l = true ∧ l.back ≠ 0 then (⟨l.cap,l.queue,IntKind.i64.wrap (l.credits + 1),IntKind.i64.wrap (l.back - 1),l.sent,l.got⟩,true) else (l,false)
section
variable {l : Link} {r : Record}
end
def hasW (x : Cluster) (w : Int) : Bool:=clOk x && Y2 w 0 (IntKind.i64.wrap (((x.workers.length : Nat) : Int) - 1))
def Vp (x : Cluster) (a b : Int) : Int:=if ((!(clOk x)) || (a == b)) = true then -1 else Vi x.graph a b
def T3 (x : Cluster) (w : Int) : Worker:=List.getD x.workers (Int.toNat w) default
def lAt (x : Cluster) (k : Int) : Link:=List.getD x.links (Int.toNat k) default
def Y3 (x : Cluster) (w : Int) (y : Worker) : Cluster:={ x with workers:=x.workers.set (Int.toNat w) y }
def Yj (x : Cluster) (k : Int) (y : Link) : Cluster:={ x with links:=x.links.set (Int.toNat k) y }
def pickInput (x : Cluster) (w : Int) : Cluster × Bool:=if hasW x w = true then (Y3 x w (Vw x.graph (T3 x w)).1,(Vw x.graph (T3 x w)).2) else (x,false)
def pickWork (x : Cluster) (w : Int) : Cluster × Bool:=if hasW x w = true then (Y3 x w (Vh x.graph (T3 x w)).1,(Vh x.graph (T3 x w)).2) else (x,false)
def pickCredit (x : Cluster) (a b : Int) : Cluster × Bool:=if Vp x a b < 0 then (x,false) else (Yj x (Vp x a b) (C2 (lAt x (Vp x a b))).1,(C2 (lAt x (Vp x a b))).2)
def pickTake (x : Cluster) (a b : Int) : Cluster × Bool:=if Vp x a b < 0 then (x,false) else
 if (Tn (lAt x (Vp x a b))).2.2 = true then (Y3 (Yj x (Vp x a b) (Tn (lAt x (Vp x a b))).1) b (Gn (T3 x b) (Tn (lAt x (Vp x a b))).2.1),true) else (x,false)
def mvR (x : Cluster) (w : Int) : Record:=(Vc (T3 x w)).2.1
def mvO (x : Cluster) (w : Int) : Int:=Hx (mvR x w).key x.graph.workers
def mvS (x : Cluster) (w : Int) : Link × Bool:=sendM (lAt x (Vi x.graph w (mvO x w))) (mvR x w)
def pickMove (x : Cluster) (w : Int) : Cluster × Bool:=if hasW x w = true ∧ 0 < (T3 x w).staged.length then
 if mvO x w = w then (Y3 x w (Kn (Vc (T3 x w)).1 (mvR x w)),true) else
 if (mvS x w).2 = true then (Y3 (Yj x (Vi x.graph w (mvO x w)) (mvS x w).1) w (sentW (Vc (T3 x w)).1 (mvR x w).stamp.epoch),true) else (x,false) else (x,false)
section
variable {x : Cluster} {a b w : Int}
end
def runBad (x : Cluster) (ok : Bool) (a b : Int) : Bool:=((!ok) || (decide (Vi x.graph a b < 0))) || (a == b)
def runCredit (x : Cluster) (ok : Bool) (a b : Int) : Cluster × Bool:=if runBad x ok a b = true then (x,false) else (Yj x (Vi x.graph a b) (C2 (lAt x (Vi x.graph a b))).1,(C2 (lAt x (Vi x.graph a b))).2)
section
variable {x : Cluster} {ok : Bool} {a b : Int}
end
def runHas (x : Cluster) (ok : Bool) (w : Int) : Bool:=ok && Y2 w 0 (IntKind.i64.wrap (((x.workers.length : Nat) : Int) - 1))
def inBad (y : Worker) : Bool:=((decide (((y.staged.length : Nat) : Int) > 0)) || (decide (((y.queue.length : Nat) : Int) > 0))) || (((y.inputs.length : Nat) : Int) == 0)
def runInput (x : Cluster) (ok : Bool) (w : Int) : Cluster × Bool:=if runHas x ok w = true ∧ inBad (T3 x w) = false then
 (Y3 x w ⟨[List.getD (T3 x w).inputs 0 default],(T3 x w).staged,(T3 x w).inputs.drop 1,(T3 x w).cells,(T3 x w).sums,(T3 x w).black,(T3 x w).caps,(T3 x w).dones⟩,true) else (x,false)
section
variable {x : Cluster} {ok : Bool} {w : Int}
variable (hw : clOk x = true ∧ 0 ≤ w ∧ w < ((x.workers.length : Nat) : Int) ∧ Int.toNat w < x.workers.length)
end
def sumY (y : Worker) (e n : Int) : Worker:=⟨y.queue,y.staged,y.inputs,y.cells,y.sums.set (Int.toNat e) (IntKind.i64.wrap (List.getD y.sums (Int.toNat e) default + n)),y.black,y.caps,y.dones⟩
def sumOk (y : Worker) (e n : Int) : Bool:=Y2 (IntKind.i64.wrap (List.getD y.sums (Int.toNat e) default + n)) (-1000000) 1000000
section
variable {x : Cluster} {p e n : Int}
end
def takeY (y : Worker) (r : Record) : Worker:=⟨y.queue ++ [r],y.staged,y.inputs,y.cells,y.sums,y.black.set (Int.toNat r.stamp.epoch) true,y.caps,y.dones⟩
def runTake (x : Cluster) (ok : Bool) (a b : Int) : Cluster × Bool × Bool:=if runBad x ok a b = true then (x,false,ok) else
 if (Tn (lAt x (Vi x.graph a b))).2.2 = false then (x,false,ok) else
 (Y3 (Yj x (Vi x.graph a b) (Tn (lAt x (Vi x.graph a b))).1) b (sumY (takeY (T3 x b) (Tn (lAt x (Vi x.graph a b))).2.1) (Tn (lAt x (Vi x.graph a b))).2.1.stamp.epoch (-1)),true,
  ok && sumOk (takeY (T3 x b) (Tn (lAt x (Vi x.graph a b))).2.1) (Tn (lAt x (Vi x.graph a b))).2.1.stamp.epoch (-1))
section
variable {x : Cluster} {ok : Bool} {a b : Int}
end
def wkBad (y : Worker) : Bool:=(decide (((y.staged.length : Nat) : Int) > 0)) || (((y.queue.length : Nat) : Int) == 0)
def wkY (g : Graph) (y : Worker) : Worker:=⟨y.queue.drop 1,(Kc g y.cells (G6 y)).2.1,y.inputs,(Kc g y.cells (G6 y)).1,y.sums,y.black,if G4 g (G6 y) = true then y.caps.set (Int.toNat (G6 y).stamp.epoch) true else y.caps,y.dones⟩
def runWork (x : Cluster) (ok : Bool) (w : Int) : Cluster × Bool:=if runHas x ok w = true ∧ wkBad (T3 x w) = false then (Y3 x w (wkY x.graph (T3 x w)),true) else (x,false)
section
variable {x : Cluster} {ok : Bool} {w : Int}
variable (hw : clOk x = true ∧ 0 ≤ w ∧ w < ((x.workers.length : Nat) : Int) ∧ Int.toNat w < x.workers.length)
end
section
variable {x : Cluster} {a b : Int}
end
section
variable {x : Cluster} {p k : Int}
end
section
variable {x : Cluster} {p : Int} (hw : clOk x = true ∧ 0 ≤ p ∧ p < ((x.workers.length : Nat) : Int) ∧ Int.toNat p < x.workers.length) (h1 : hasW x p = true ∧ 0 < (T3 x p).staged.length)
include h1
variable (hl : Int.toNat (Vi x.graph p (Hx ((Vc (x.workers[Int.toNat p]'hw.2.2.2)).2.1).key x.graph.workers)) < x.links.length)
end
def smR (x : Cluster) (p : Int) : Record:=List.getD (T3 x p).staged 0 default
def smK (x : Cluster) (p : Int) : Int:=Vi x.graph p (Hx (smR x p).key x.graph.workers)
def dropS (y : Worker) : Worker:=⟨y.queue,y.staged.drop 1,y.inputs,y.cells,y.sums,y.black,y.caps,y.dones⟩
def runMove (x : Cluster) (ok : Bool) (p : Int) : Cluster × Bool × Bool:=if runHas x ok p = true ∧ 0 < (T3 x p).staged.length then
 if Hx (smR x p).key x.graph.workers = p then (Y3 x p (dropS (Kn (T3 x p) (smR x p))),true,ok) else
 if (sendM (lAt x (smK x p)) (smR x p)).2 = true then (Y3 (Yj x (smK x p) (sendM (lAt x (smK x p)) (smR x p)).1) p (dropS (sumY (T3 x p) (smR x p).stamp.epoch 1)),true,ok && sumOk (T3 x p) (smR x p).stamp.epoch 1) else (x,false,ok)
 else (x,false,ok)
section
variable {x : Cluster} {ok : Bool} {p : Int}
variable (hw : clOk x = true ∧ 0 ≤ p ∧ p < ((x.workers.length : Nat) : Int) ∧ Int.toNat p < x.workers.length) (h0 : 0 < (x.workers[Int.toNat p]'hw.2.2.2).staged.length)
variable (h1 : ((!(ok && Y2 p 0 (IntKind.i64.wrap (((x.workers.length : Nat) : Int) - 1)))) || (((((List.getD x.workers (Int.toNat p) default).staged).length : Nat) : Int) == 0)) = false)
include h1
variable (hl : Int.toNat (Vi x.graph p (Hx ((x.workers[Int.toNat p]'hw.2.2.2).staged[0]'h0).key x.graph.workers)) < x.links.length)
end
section
variable {x : Cluster} {p : Int}
end
def mineP (n w : Int) (r : Record) : Bool:=Hx r.key n == w
def bothP (e n w : Int) (r : Record) : Bool:=ofE e r && mineP n w r
def ownTo (n w : Int) (xs : List Record) : Nat → List Record
 | 0=>[]
 | e + 1=>ownTo n w xs e ++ (xs.filter (ofE ((e : Nat) : Int))).filter (mineP n w)
def recBad (r : Record) : Bool:=(!(Yx r) || r.op != 0) || r.stamp.turn != 0
def newWs (g : Graph) (xs : List Record) (k : Nat) : List Worker:=(List.range k).map fun i=>Yk (ownTo g.workers ((i : Nat) : Int) xs 4)
def clZero : Cluster:=⟨⟨[],0,0⟩,[],[],[],[]⟩
def newCl (g : Graph) (xs : List Record) : Cluster:=⟨g,newWs g xs (Int.toNat g.workers),List.replicate (Int.toNat g.workers * Int.toNat g.workers) (linkNew g.cap),[⟨false,0,0,false,false⟩,⟨false,0,0,false,false⟩,⟨false,0,0,false,false⟩,⟨false,0,0,false,false⟩],[]⟩
def clusterNew (g : Graph) (xs : List Record) : Cluster × Bool:=if ((!(Yr g)) || decide (20 < ((xs.length : Nat) : Int))) = true then (clZero,false) else if xs.any recBad = true then (clZero,false) else (newCl g xs,true)
theorem better_again (xs : List Cell) (x : Cell) : Xg (Xg xs x).1 x = ((Xg xs x).1,false) ∧ (Yt (Xg xs x).1 x.op x.epoch x.key).2 = true ∧ (Yt (Xg xs x).1 x.op x.epoch x.key).1 ≤ x.val:=by
 cases hq : ((Yt xs x.op x.epoch x.key).2 && decide ((Yt xs x.op x.epoch x.key).1 ≤ x.val))
 ·have h:=Ti (xs:=xs) (x:=x) (by rw [V8 hq])
  refine ⟨K8 (by rw [h];simp),by rw [h],by rw [h];exact Int.le_refl _⟩
 ·rw [K8 hq]
  simp only [Bool.and_eq_true,decide_eq_true_eq] at hq
  exact ⟨K8 (by simpa using hq),hq.1,hq.2⟩
def smG (g : Graph) : Prop:=g.nodes.length ≤ 9 ∧ ∀ y ∈ g.nodes,y.outs.length ≤ 3
theorem Bi : ∀ {xs : List Node},(∀ y ∈ xs,y.outs.length ≤ 3) → cntL Tx xs ≤ 4 * xs.length
 | [],_=>by simp [cntL]
 | y :: xs,hx=>by
  have h1:=Bi fun z hz=>hx z (List.mem_cons_of_mem y hz)
  have h2:=hx y (by simp)
  simp only [cntL,List.length_cons,List.map_cons,List.sum_cons,Tx] at *
  omega
theorem smG_cnt {g : Graph} (h : smG g) : Uq g ≤ 1048576:=by
 have h1:=Bi h.2
 have h2:=h.1
 unfold Uq
 omega
def outsI (g : Graph) (a : Int) : List Int:=(List.getD g.nodes (Int.toNat a) default).outs
inductive Pth (g : Graph) : Int → Int → Prop
 | one {a b : Int} : b ∈ outsI g a → Pth g a b
 | step {a b c : Int} : Pth g a b → c ∈ outsI g b → Pth g a c
def nodeI (g : Graph) (a : Int) : Prop:=0 ≤ a ∧ a < ((g.nodes.length : Nat) : Int)
section
variable {g : Graph} {a b c x : Int} {f os : List Int} {n i k : Nat}
def backAt (g : Graph) (i : Nat) : Bool:=((List.getD g.nodes i default).kind == 7) && decide (0 < (((List.getD g.nodes i default).outs.length : Nat) : Int))
def gateAt (g : Graph) (k m : Nat) : Bool:=(((List.getD g.nodes m default).kind == 5) || ((List.getD g.nodes m default).kind == 6)) && ((((m : Nat) : Int) == ((k : Nat) : Int)) || (reaches g ((k : Nat) : Int) ((m : Nat) : Int) && reaches g ((m : Nat) : Int) ((k : Nat) : Int)))
def loopG : Graph:=⟨[⟨1,0,0,[1]⟩,⟨5,0,0,[2]⟩,⟨7,0,0,[1]⟩],1,1⟩
end
section
variable {g : Graph} {cs : List Cell} {r q : Record} {x : Node} {a b : Int}
theorem changed_rg (hn : Xc x = true) (ha : Y2 a 0 99 = true) (hb : Y2 b 0 999 = true) : Y2 (Qo x a b).1 0 99 = true ∧ Y2 (Qo x a b).2.1 0 999 = true:=by
 have h : (!(Xc x) || !(Y2 a 0 99 && Y2 b 0 999)) = false:=by rw [hn,ha,hb];rfl
 have ha':=Gw.1 ha
 have hb':=Gw.1 hb
 have hk : Ug x = true:=by simp only [Xc,Bool.and_eq_true] at hn;exact hn.1.1
 cases h2 : (x.kind == 2) with
 | true =>
  rw [ch_2 h h2]
  rw [node_2 h2,Bool.and_eq_true] at hk
  have:=Gw.1 hk.1
  refine ⟨ha,Gw.2 ?_⟩
  dsimp only
  rw [Ke (by omega) (by omega)]
  split <;> omega
 | false =>
  cases h4 : (x.kind == 4) with
  | true =>
   rw [ch_4 h h4]
   rw [node_4 h4,Bool.and_eq_true] at hk
   have:=Gw.1 hk.1
   refine ⟨Gw.2 ?_,hb⟩
   dsimp only
   rw [Ke (by omega) (by omega),Int.tmod_eq_emod_of_nonneg (by omega)]
   omega
  | false =>
   cases h3 : (x.kind == 3) with
   | true=>rw [ch_3 h h3];exact ⟨ha,hb⟩
   | false=>rw [ch_o h h2 h4 h3];exact ⟨ha,hb⟩
end
def twoG : Graph:=⟨[⟨1,0,0,[1]⟩,⟨8,0,0,[]⟩],1,1⟩
section
variable {g : Graph} {a b l xs : List Cell} {x y c m : Cell} {e : Int} {rs : List Record}
theorem nw_iff : nwP a x = true ↔ (Yt a x.op x.epoch x.key).2 = true ∧ (Yt a x.op x.epoch x.key).1 ≤ x.val:=by
 simp only [nwP,Bool.not_eq_true',Bool.or_eq_false_iff,Bool.not_eq_false',decide_eq_false_iff_not,Int.not_lt]
theorem better_self (xs : List Cell) (x : Cell) : nwP (Xg xs x).1 x = true:=nw_iff.2 (better_again xs x).2
theorem better_nw (h : nwP xs y = true) : nwP (Xg xs x).1 y = true:=by
 have hy:=nw_iff.1 h
 by_cases hs : y.op = x.op ∧ y.epoch = x.epoch ∧ y.key = x.key
 ·cases hc : (Xg xs x).2 with
  | false=>rw [Bm hc];exact h
  | true =>
   have ho:=Ti hc
   have hf : ((Yt xs x.op x.epoch x.key).2 && decide ((Yt xs x.op x.epoch x.key).1 ≤ x.val)) = false:=by
    cases hq : ((Yt xs x.op x.epoch x.key).2 && decide ((Yt xs x.op x.epoch x.key).1 ≤ x.val))
    ·rfl
    ·rw [K8 hq] at hc;cases hc
   rw [hs.1,hs.2.1,hs.2.2] at hy
   rw [hy.1,Bool.true_and,decide_eq_false_iff_not] at hf
   refine nw_iff.2 ?_
   rw [hs.1,hs.2.1,hs.2.2,ho]
   refine ⟨rfl,?_⟩
   have:=hy.2
   dsimp only;omega
 ·refine nw_iff.2 ?_
  rw [Tz hs];exact hy
theorem Cf : (Y7 g b x).1 = if Uv g x = true then b else (Xg b x).1:=by
 unfold Y7
 split
 ·rfl
 ·split <;> rfl
theorem improve_nw (h : nwP b y = true) : nwP (Y7 g b x).1 y = true:=by
 rw [Cf];split
 ·exact h
 ·exact better_nw h
theorem improve_self (h : Uv g x = false) : nwP (Y7 g b x).1 x = true:=by
 rw [Cf,if_neg (Td h)];exact better_self b x
theorem putM_sub (h : c ∈ H3 l x) : c ∈ l ∨ c = x:=by
 unfold H3 at h
 split at h
 ·exact .inl h
 ·unfold insM at h
  simp only [List.mem_append,List.mem_cons] at h
  rcases h with h | h | h
  ·exact .inl (List.mem_of_mem_take h)
  ·exact .inr h
  ·exact .inl (List.mem_of_mem_drop h)
theorem better_sub (h : c ∈ (Xg b x).1) : c ∈ b ∨ (c = x ∧ (Xg b x).2 = true):=by
 unfold Xg at h ⊢
 split at h
 ·exact .inl h
 ·rename_i hn
  rcases putM_sub h with h | h
  ·exact .inl (List.mem_filter.1 h).1
  ·rw [if_neg hn];exact .inr ⟨h,rfl⟩
theorem Tt (hb : Uv g x = false) (h : (Xg b x).2 = true) : (Y7 g b x).2 = (Y7 g [] x).2:=by
 have h0 : (Xg [] x).2 = true:=by rw [V8 (by simp [Yt,Kr])]
 unfold Y7
 rw [if_neg (Td hb),if_neg (Td hb),h,h0]
 split <;> rfl
theorem more_ok (hb : Uv g x = false) (hm : m ∈ (Y7 g [] x).2) : Uv g m = false:=by
 have hq:=imp_of hb
 have hi:=Vt hq.2
 unfold Y7 at hm
 rw [if_neg (Td hb)] at hm
 split at hm
 ·cases hm
 ·have hno : Xc g.nodes[Int.toNat x.op] = true:=by
   have:=gok_at hq.1 hi.2.2
   simp only [Km,atOk,Bool.and_eq_true,Bool.not_eq_true',Bool.or_eq_false_iff,Bool.not_eq_false'] at this
   exact this.1.1
  have hb':=hb
  simp only [Uv,Bool.or_eq_false_iff,Bool.not_eq_false',Bool.and_eq_true] at hb'
  have hrg:=changed_rg hno hb'.2.1 hb'.2.2
  simp only [impTo,List.mem_map,List.take_length] at hm
  obtain ⟨n,hn,rfl⟩:=hm
  rw [X2 hi.2.2] at hn
  have ho:=gok_outs hq.1 hi.2.2 n hn
  have hnn : Xw g n = true:=Gw.2 (by omega)
  simp only [Uv,Bool.or_eq_false_iff,Bool.not_eq_false',Bool.and_eq_true]
  refine ⟨⟨⟨hq.1,hnn⟩,hb'.1.2⟩,?_⟩
  rw [impCh,X2 hi.2.2];exact hrg
def FInv (g : Graph) (b l : List Cell) : Prop:=(∀ c ∈ b,Uv g c = false ∧ ∀ m ∈ (Y7 g [] c).2,nwP b m = true ∨ m ∈ l) ∧ ∀ x ∈ l,Uv g x = false
theorem FInv.step (h : FInv g b (x :: l)) : FInv g (Y7 g b x).1 (l ++ (Y7 g b x).2):=by
 have hx:=h.2 x (by simp)
 have hle : ∀ m ∈ (Y7 g b x).2,m ∈ (Y7 g [] x).2:=fun m hm=>by
  cases hc : (Xg b x).2 with
  | true=>rw [← Tt hx hc];exact hm
  | false =>
   unfold Y7 at hm
   rw [if_neg (Td hx),hc] at hm
   simp at hm
 refine ⟨fun c hc=>?_,fun y hy=>?_⟩
 ·have old : c ∈ b → Uv g c = false ∧ ∀ m ∈ (Y7 g [] c).2,nwP (Y7 g b x).1 m = true ∨ m ∈ l ++ (Y7 g b x).2:=fun hcb=>by
   refine ⟨(h.1 c hcb).1,fun m hm=>?_⟩
   rcases (h.1 c hcb).2 m hm with h1 | h1
   ·exact .inl (improve_nw h1)
   ·rcases List.mem_cons.1 h1 with rfl | h1
    ·exact .inl (improve_self hx)
    ·exact .inr (List.mem_append.2 (.inl h1))
  rw [Cf,if_neg (Td hx)] at hc
  rcases better_sub hc with hc | ⟨rfl,hc⟩
  ·exact old hc
  ·exact ⟨hx,fun m hm=>.inr (List.mem_append.2 (.inr (by rw [Tt hx hc];exact hm)))⟩
 ·rcases List.mem_append.1 hy with hy | hy
  ·exact h.2 y (by simp [hy])
  ·exact more_ok hx (hle y hy)
def fixQ (e : Int) (r : Record) : Bool:=((r.stamp.epoch == e) && Yx r) && decide (0 ≤ e)
end
section
variable {g : Graph} {x : Worker} {r : Record} {k : Nat}
theorem wl_take (h : Q6 x ≤ 60 + 4 * k) : Q6 (Vw g x).1 ≤ 60 + 4 * (k + 1):=by have:=@cnt_take g x;omega
theorem wl_recv (h : Q6 x ≤ 60 + 4 * k) : Q6 (Gn x r) ≤ 60 + 4 * (k + 1):=by have:=cnt_recv x r;omega
theorem wl_unst (h : Q6 x ≤ 60 + 4 * k) : Q6 (Vc x).1 ≤ 60 + 4 * (k + 1):=by have:=cnt_unst x;omega
theorem wl_work (h : Q6 x ≤ 60 + 4 * k) : Q6 (Vh g x).1 ≤ 60 + 4 * (k + 1):=by have:=@cnt_work g x;omega
theorem ws_take (h : x.sums.length = 4) : (Vw g x).1.sums.length = 4:=by unfold Vw;split <;> exact h
theorem ws_recv (h : x.sums.length = 4) : (Gn x r).sums.length = 4:=by unfold Gn Kn;split <;> simpa using h
theorem ws_unst (h : x.sums.length = 4) : (Vc x).1.sums.length = 4:=by unfold Vc;split <;> exact h
theorem ws_work (h : x.sums.length = 4) : (Vh g x).1.sums.length = 4:=by unfold Vh;split <;> exact h
end
def oneG : Graph:=⟨[⟨1,0,0,[]⟩],1,1⟩
section
variable {g : Graph} {x : Worker} {q r : Record} {cs : List Cell}
end
def Yi (a b : Stamp) : Int:=X7 [a.epoch,a.turn] [b.epoch,b.turn]
theorem Hd (a b : Stamp) : Yi a b = if Xj a.epoch b.epoch = 0 then Xj a.turn b.turn else Xj a.epoch b.epoch:=by
 simp only [Yi,X7]
 split
 ·split <;> simp_all
 ·rfl
theorem stampOrd_1 {a b : Stamp} (h : (Xj a.epoch b.epoch != 0) = true) : Yi a b = Xj a.epoch b.epoch:=by
 rw [Hd,if_neg (by simpa using h)]
theorem stampOrd_2 {a b : Stamp} (h : (Xj a.epoch b.epoch != 0) = false) : Yi a b = Xj a.turn b.turn:=by
 rw [Hd,if_pos (by simpa using h)]
def Kl (a b : Record) : Int:=if (Yi a.stamp b.stamp != 0) = true then Yi a.stamp b.stamp else X7 [a.op,a.key,a.val] [b.op,b.key,b.val]
theorem recOrd_1 {a b : Record} (h : (Yi a.stamp b.stamp != 0) = true) : Kl a b = Yi a.stamp b.stamp:=if_pos h
theorem recOrd_2 {a b : Record} (h : (Yi a.stamp b.stamp != 0) = false) : Kl a b = X7 [a.op,a.key,a.val] [b.op,b.key,b.val]:=if_neg (by rw [h];simp)
def Ys : List Count → Stamp → Int
 | [],_=>0
 | x :: t,s=>if x.stamp = s then x.n else Ys t s
section
variable {t : List Count} {s : Stamp} {k : Nat}
theorem Tw (h : k < t.length) : Ys (t.drop k) s = if t[k].stamp = s then t[k].n else Ys (t.drop (k + 1)) s:=by
 rw [List.drop_eq_getElem_cons h];rfl
theorem countAt_step (hI : Ys (t.drop k) s = Ys t s) (h : k < t.length) (hc : ¬ t[k].stamp = s) : Ys (t.drop (k + 1)) s = Ys t s:=by
 rw [← hI,Tw h,if_neg hc]
theorem countAt_yes (hI : Ys (t.drop k) s = Ys t s) (h : k < t.length) (hc : t[k].stamp = s) : Ys t s = t[k].n:=by
 rw [← hI,Tw h,if_pos hc]
theorem countAt_no (hI : Ys (t.drop k) s = Ys t s) (h : t.length ≤ k) : Ys t s = 0:=by
 rw [← hI,List.drop_of_length_le h];rfl
end
def cOkAt (t : List Count) (j : Nat) : Bool :=
 !((((!(Yo (List.getD t j default).stamp)) || (!(Y2 (List.getD t j default).n (-1000000) 1000000))) || ((List.getD t j default).n == 0)) || (decide (0 < ((j : Nat) : Int)) && decide (0 ≤ Yi (List.getD t (j - 1) default).stamp (List.getD t j default).stamp)))
theorem Ar {t : List Count} {j : Nat} (h : j < t.length) : cOkAt t j = !((((!(Yo t[j].stamp)) || (!(Y2 t[j].n (-1000000) 1000000))) || (t[j].n == 0)) || (decide (0 < ((j : Nat) : Int)) && decide (0 ≤ Yi (List.getD t (j - 1) default).stamp t[j].stamp))):=by
 simp only [cOkAt,X2 h]
def Vk (t : List Count) : Bool:=Gm t.length (cOkAt t)
def X3 (s : Stamp) (m : Int) (o : List Count × Bool) (x : Count) : List Count × Bool :=
 (if x.stamp ≠ s then (if (!o.2 && decide (Yi s x.stamp ≤ 0)) = true then o.1 ++ [⟨s,m⟩] else o.1) ++ [x] else (if (!o.2 && decide (Yi s x.stamp ≤ 0)) = true then o.1 ++ [⟨s,m⟩] else o.1),
  if (!o.2 && decide (Yi s x.stamp ≤ 0)) = true then true else o.2)
def U0 (s : Stamp) (m : Int) (t : List Count) : List Count × Bool:=t.foldl (X3 s m) ([],m == 0)
def Ax (t : List Count) (s : Stamp) (m : Int) : List Count:=if (!(U0 s m t).2) = true then (U0 s m t).1 ++ [⟨s,m⟩] else (U0 s m t).1
def Cj (t : List Count) (s : Stamp) (n : Int) : Bool:=((!(Vk t)) || (!(Yo s))) || (!(Y2 n (-2000000) 2000000))
def Ua (t : List Count) (s : Stamp) (n : Int) : List Count × Bool :=
 if Cj t s n = true then (t,false) else if (!(Y2 (IntKind.i64.wrap (Ys t s + n)) (-1000000) 1000000)) = true then (t,false) else (Ax t s (IntKind.i64.wrap (Ys t s + n)),true)
def d2n : Bool → Nat
 | true=>0
 | false=>1
theorem d2n_le (b : Bool) : d2n b ≤ 1:=by cases b <;> simp [d2n]
section
variable {t : List Count} {s : Stamp} {m n : Int} {k : Nat} {o : List Count × Bool}
theorem adjStep_len (x : Count) : (X3 s m o x).1.length + d2n (X3 s m o x).2 ≤ o.1.length + d2n o.2 + 1:=by
 obtain ⟨l,d⟩:=o
 cases d <;> cases hle : decide (Yi s x.stamp ≤ 0) <;> simp only [X3,hle] <;> split <;> simp [d2n]
theorem Hr : ∀ (t : List Count) (o : List Count × Bool),(t.foldl (X3 s m) o).1.length + d2n (t.foldl (X3 s m) o).2 ≤ o.1.length + d2n o.2 + t.length
 | [],o=>Nat.le_refl _
 | x :: t,o=>by
  have h1:=Hr t (X3 s m o x)
  have h2:=@adjStep_len s m o x
  simp only [List.foldl_cons,List.length_cons]
  omega
theorem adjM_len : (Ax t s m).length ≤ t.length + 1:=by
 have h:=@Hr s m t ([],m == 0)
 have hd : d2n (m == 0) ≤ 1:=d2n_le _
 unfold Ax U0
 simp only [List.length_nil] at h
 split
 ·rename_i hq
  have : d2n (t.foldl (X3 s m) ([],m == 0)).2 = 1:=by rw [show (t.foldl (X3 s m) ([],m == 0)).2 = false from by simpa using hq];rfl
  simp only [List.length_append,List.length_cons,List.length_nil]
  omega
 ·omega
theorem adjust_len : (Ua t s n).1.length ≤ t.length + 1:=by
 unfold Ua
 split
 ·exact Nat.le_succ _
 ·split
  ·exact Nat.le_succ _
  ·exact adjM_len
theorem adjRun_len (h : k ≤ t.length) : (U0 s m (t.take k)).1.length ≤ k + 1:=by
 have h1:=@Hr s m (t.take k) ([],m == 0)
 have hd : d2n (m == 0) ≤ 1:=d2n_le _
 unfold U0
 simp only [List.length_nil,List.length_take] at *
 omega
theorem adj_0 (h : Cj t s n = true) : Ua t s n = (t,false):=by rw [Ua,if_pos h]
theorem adj_1 (h : Cj t s n = false) (h2 : (!(Y2 (IntKind.i64.wrap (Ys t s + n)) (-1000000) 1000000)) = true) : Ua t s n = (t,false):=by rw [Ua,if_neg (Td h),if_pos h2]
theorem adj_2 (h : Cj t s n = false) (h2 : (!(Y2 (IntKind.i64.wrap (Ys t s + n)) (-1000000) 1000000)) = false) : Ua t s n = (Ax t s (IntKind.i64.wrap (Ys t s + n)),true):=by rw [Ua,if_neg (Td h),if_neg (Td h2)]
theorem run_0 : U0 s m (t.take 0) = ([],m == 0):=rfl
theorem Tp (h : k < t.length) (ho : U0 s m (t.take k) = o) : U0 s m (t.take (k + 1)) = X3 s m o t[k]:=by
 unfold U0 at *
 rw [List.take_succ_eq_append_getElem h,List.foldl_append,ho];rfl
end
theorem H0 {ls : List Count} {s : Stamp} {m : Int} {dn b4 b5 : Bool} {t : List Count} {k : Nat} (hk : k < t.length) (h4 : (!dn && decide (Yi s (List.getD t k default).stamp ≤ 0)) = b4) (h5 : (!(decide (t[k].stamp = s))) = b5) :
  X3 s m (ls,dn) t[k] = ((bif b5 then (bif b4 then ls ++ [⟨s,m⟩] else ls) ++ [t[k]] else (bif b4 then ls ++ [⟨s,m⟩] else ls)),bif b4 then true else dn):=by
 rw [X2 hk] at h4
 subst h4 h5
 unfold X3
 dsimp only
 by_cases h : t[k].stamp = s
 ·rw [if_neg (by simpa using h),decide_eq_true h]
  cases (!dn && decide (Yi s t[k].stamp ≤ 0)) <;> rfl
 ·rw [if_pos h,decide_eq_false h]
  cases (!dn && decide (Yi s t[k].stamp ≤ 0)) <;> rfl
theorem adjM_yes {t ls : List Count} {s : Stamp} {m : Int} {k : Nat} {dn : Bool} (h : U0 s m (t.take k) = (ls,dn)) (hk : t.length ≤ k) (hd : (!dn) = true) : Ax t s m = ls ++ [⟨s,m⟩]:=by
 rw [List.take_of_length_le hk] at h
 rw [Ax,h,if_pos hd]
theorem adjM_no {t ls : List Count} {s : Stamp} {m : Int} {k : Nat} {dn : Bool} (h : U0 s m (t.take k) = (ls,dn)) (hk : t.length ≤ k) (hd : (!dn) = false) : Ax t s m = ls:=by
 rw [List.take_of_length_le hk] at h
 rw [Ax,h,if_neg (Td hd)]
def Vd (rs : List Record) : List Count:=rs.foldl (fun t r=>(Ua t r.stamp 1).1) []
def Ur (o : List Count) (r : Record) : List Count :=
 if Yo r.stamp = true then
  if 0 < o.length ∧ (List.getD o (o.length - 1) default).stamp = r.stamp then o.set (o.length - 1) ⟨(List.getD o (o.length - 1) default).stamp,IntKind.i64.wrap ((List.getD o (o.length - 1) default).n + 1)⟩ else o ++ [⟨r.stamp,1⟩]
 else o
def Xl (rs : List Record) : List Count:=rs.foldl Ur []
theorem cntTo_len (rs : List Record) : (Vd rs).length ≤ rs.length:=by
 have : ∀ (rs : List Record) (t : List Count),(rs.foldl (fun t r=>(Ua t r.stamp 1).1) t).length ≤ t.length + rs.length:=by
  intro rs
  induction rs with
  | nil=>intro t;simp
  | cons r rs ih =>
   intro t
   have h1:=ih (Ua t r.stamp 1).1
   have h2:=@adjust_len t r.stamp 1
   simp only [List.foldl_cons,List.length_cons]
   omega
 have h:=this rs []
 rw [List.length_nil,Nat.zero_add] at h
 exact h
theorem cntTo_step {rs : List Record} {k : Nat} (h : k < rs.length) : Vd (rs.take (k + 1)) = (Ua (Vd (rs.take k)) rs[k].stamp 1).1:=by
 unfold Vd;rw [List.take_succ_eq_append_getElem h,List.foldl_append];rfl
theorem Tb {rs : List Record} {k : Nat} (h : k < rs.length) : Xl (rs.take (k + 1)) = Ur (Xl (rs.take k)) rs[k]:=by
 unfold Xl;rw [List.take_succ_eq_append_getElem h,List.foldl_append];rfl
theorem runStep_len (o : List Count) (r : Record) : (Ur o r).length ≤ o.length + 1:=by
 unfold Ur
 split
 ·split <;> simp
 ·exact Nat.le_succ _
theorem runTo_len (rs : List Record) : (Xl rs).length ≤ rs.length:=by
 have : ∀ (rs : List Record) (t : List Count),(rs.foldl Ur t).length ≤ t.length + rs.length:=by
  intro rs
  induction rs with
  | nil=>intro t;simp
  | cons r rs ih =>
   intro t
   have h1:=ih (Ur t r)
   have h2:=runStep_len t r
   simp only [List.foldl_cons,List.length_cons]
   omega
 have h:=this rs []
 rw [List.length_nil,Nat.zero_add] at h
 exact h
theorem ordI_neg (a b : Int) : Xj b a = -Xj a b:=by unfold Xj;split <;> split <;> (try split) <;> (try split) <;> omega
theorem T9 {a b : Int} : Xj a b = 0 ↔ a = b:=by unfold Xj;split <;> (try split) <;> omega
theorem ordI_lt {a b : Int} : Xj a b < 0 ↔ a < b:=by unfold Xj;split <;> (try split) <;> omega
theorem Ty : ∀ xs ys : List Int,X7 ys xs = -X7 xs ys
 | [],[]=>rfl
 | [],_ :: _=>rfl
 | _ :: _,[]=>rfl
 | x :: xs,y :: ys=>by
  have h:=Ty xs ys
  have h2:=ordI_neg x y
  simp only [X7]
  split <;> split <;> omega
theorem Bj : ∀ xs ys : List Int,X7 xs ys = 0 → xs = ys
 | [],[],_=>rfl
 | [],_ :: _,h=>by simp [X7] at h
 | _ :: _,[],h=>by simp [X7] at h
 | x :: xs,y :: ys,h=>by
  simp only [X7] at h
  split at h
  ·rename_i h1
   rw [T9.1 h1,Bj xs ys h]
  ·omega
theorem cmpL_lt : ∀ xs ys zs : List Int,X7 xs ys < 0 → X7 ys zs < 0 → X7 xs zs < 0
 | xs,[],zs,h1,_=>by cases xs <;> simp [X7] at h1
 | [],_ :: _,[],_,h=>by simp [X7] at h
 | [],_ :: _,_ :: _,_,_=>by simp [X7]
 | _ :: _,_ :: _,[],_,h=>by simp [X7] at h
 | x :: xs,y :: ys,z :: zs,h1,h2=>by
  have ih:=cmpL_lt xs ys zs
  simp only [X7] at *
  have e1:=@T9 x y
  have e2:=@T9 y z
  have e3:=@T9 x z
  have l1:=@ordI_lt x y
  have l2:=@ordI_lt y z
  have l3:=@ordI_lt x z
  split at h1 <;> split at h2 <;> split
  ·exact ih h1 h2
  all_goals first | omega | (exfalso;omega)
def A4 (r : Record) : List Int:=[r.stamp.epoch,r.stamp.turn,r.op,r.key,r.val]
theorem Ag (a b : Record) : Kl a b = X7 (A4 a) (A4 b):=by
 unfold Kl
 rw [Hd]
 simp only [A4,X7,bne_iff_ne,ne_eq,ite_not]
 split <;> rfl
theorem recL_inj {a b : Record} (h : A4 a = A4 b) : a = b:=by
 obtain ⟨o,⟨e,t⟩,k,v⟩:=a
 obtain ⟨o',⟨e',t'⟩,k',v'⟩:=b
 simp only [A4,List.cons.injEq] at h
 obtain ⟨rfl,rfl,rfl,rfl,rfl,_⟩:=h
 rfl
theorem Af (a : Record) : ¬ Kl a a < 0:=by
 have h:=Ty (A4 a) (A4 a)
 rw [Ag];omega
theorem T8 {a b c : Record} (h1 : Kl a b < 0) (h2 : Kl b c < 0) : Kl a c < 0:=by
 rw [Ag] at *;exact cmpL_lt _ _ _ h1 h2
theorem Ad {a b : Record} (h1 : ¬ Kl a b < 0) (h2 : ¬ Kl b a < 0) : a = b:=by
 have h:=Ty (A4 a) (A4 b)
 rw [Ag] at *;exact recL_inj (Bj _ _ (by omega))
theorem Ae {a b c : Record} (h1 : ¬ Kl a b < 0) (h2 : ¬ Kl b c < 0) : ¬ Kl a c < 0:=fun h=>by
 by_cases h3 : Kl b a < 0
 ·exact h2 (T8 h3 h)
 ·rw [Ad h1 h3] at h;exact h2 h
def Yq (xs : List Record) : List Record:=xs.mergeSort fun x y=>!decide (Kl y x < 0)
theorem C8 (xs : List Record) : (Yq xs).Perm xs:=List.mergeSort_perm ..
theorem A7 (xs : List Record) : (Yq xs).length = xs.length:=(C8 xs).length_eq
theorem sortR_sorted (xs : List Record) : (Yq xs).Pairwise fun a b=>¬ Kl b a < 0:=by
 have h:=List.pairwise_mergeSort (le:=fun x y=>!decide (Kl y x < 0)) (fun a b c h1 h2=>by
  simp only [Bool.not_eq_true',decide_eq_false_iff_not] at *;exact Ae h2 h1) (fun a b=>by
  by_cases h : Kl b a < 0
  ·have : ¬ Kl a b < 0:=fun h'=>Af _ (T8 h h')
   simp [this]
  ·simp [h]) xs
 exact h.imp fun h=>by simpa using h
section
variable {o : List Count} {r : Record}
theorem Ac (h : (!Yo r.stamp) = true) : Ur o r = o:=by
 have h' : Yo r.stamp = false:=by simpa using h
 rw [Ur,h',if_neg (by simp)]
theorem Ab (h : (!Yo r.stamp) = false) (h3 : (decide (0 < ((o.length : Nat) : Int)) && decide ((List.getD o (o.length - 1) default).stamp = r.stamp)) = true) (hi : o.length - 1 < o.length) : Ur o r = o.set (o.length - 1) ⟨(o[o.length - 1]'hi).stamp,IntKind.i64.wrap ((o[o.length - 1]'hi).n + 1)⟩:=by
 have h' : Yo r.stamp = true:=by simpa using h
 rw [Bool.and_eq_true,decide_eq_true_eq,decide_eq_true_eq] at h3
 rw [Ur,if_pos h',if_pos ⟨by omega,h3.2⟩]
 simp only [X2 hi]
theorem Cp (h : (!Yo r.stamp) = false) (h3 : (decide (0 < ((o.length : Nat) : Int)) && decide ((List.getD o (o.length - 1) default).stamp = r.stamp)) = false) : Ur o r = o ++ [⟨r.stamp,1⟩]:=by
 have h' : Yo r.stamp = true:=by simpa using h
 rw [Ur,if_pos h',if_neg]
 rintro ⟨h1,h2⟩
 rw [decide_eq_true h2,decide_eq_true (by omega)] at h3
 cases h3
end
def U6 (x : Worker) : List Record:=x.queue ++ x.staged ++ x.inputs
theorem Vz (x : Worker) : (U6 x).length = x.queue.length + x.staged.length + x.inputs.length:=by simp [U6];omega
def Vq : List Stamp:=(List.range 4).flatMap fun e=>(List.range 7).map fun t=>⟨((e : Nat) : Int),((t : Nat) : Int)⟩
theorem allS_sorted : Vq.Pairwise fun a b=>Yi a b < 0:=by decide +kernel
theorem allS_ok : ∀ s ∈ Vq,Yo s = true:=by decide +kernel
theorem allS_mem {s : Stamp} (h : Yo s = true) : s ∈ Vq:=by
 simp only [Yo,Bool.and_eq_true,Gw] at h
 obtain ⟨e,t⟩:=s
 simp only at h
 refine List.mem_flatMap.2 ⟨e.toNat,List.mem_range.2 (by omega),List.mem_map.2 ⟨t.toNat,List.mem_range.2 (by omega),?_⟩⟩
 rw [Int.toNat_of_nonneg (by omega),Int.toNat_of_nonneg (by omega)]
theorem To (a b : Stamp) : Yi b a = -Yi a b:=Ty _ _
theorem Kx (a : Stamp) : Yi a a = 0:=by have:=To a a;omega
theorem Au {s : Stamp} (h : Yo s = true) : ∃ A B,Vq = A ++ s :: B ∧ (∀ a ∈ A,0 < Yi s a) ∧ ∀ b ∈ B,Yi s b < 0:=by
 obtain ⟨A,B,hE⟩:=List.append_of_mem (allS_mem h)
 have hs:=allS_sorted
 rw [hE,List.pairwise_append,List.pairwise_cons] at hs
 exact ⟨A,B,hE,fun a ha=>by have:=hs.2.2 a ha s (by simp);rw [To];omega,fun b hb=>hs.2.1.1 b hb⟩
def Y4 (f : Stamp → Nat) (l : List Stamp) : List Count:=(l.filter fun s=>f s != 0).map fun s=>⟨s,(f s : Int)⟩
section
variable {f g : Stamp → Nat} {s : Stamp} {A B : List Stamp} {m : Int}
theorem Gd (l l' : List Stamp) : Y4 f (l ++ l') = Y4 f l ++ Y4 f l':=by simp [Y4]
theorem Ht {l : List Stamp} (h : ∀ s ∈ l,f s = g s) : Y4 f l = Y4 g l:=by
 induction l with
 | nil=>rfl
 | cons x l ih =>
  have h1:=h x (by simp)
  have h2:=ih fun s hs=>h s (by simp [hs])
  rw [show x :: l = [x] ++ l from rfl,Gd,Gd,h2]
  simp only [Y4,List.filter_cons,h1,List.filter_nil]
  split <;> simp [h1]
theorem Gx {l : List Stamp} {c : Count} (h : c ∈ Y4 f l) : c.stamp ∈ l ∧ f c.stamp ≠ 0 ∧ c.n = (f c.stamp : Int):=by
 simp only [Y4,List.mem_map,List.mem_filter] at h
 obtain ⟨s,⟨h1,h2⟩,rfl⟩:=h
 exact ⟨h1,by simpa using h2,rfl⟩
theorem Cw : Y4 f [s] = if f s = 0 then [] else [⟨s,(f s : Int)⟩]:=by
 simp only [Y4,List.filter_cons,List.filter_nil,bne_iff_ne,ne_eq]
 split <;> simp_all
theorem tab_nil {l : List Stamp} (h : ∀ s ∈ l,f s = 0) : Y4 f l = []:=by
 simp only [Y4,List.map_eq_nil_iff,List.filter_eq_nil_iff]
 intro s hs;simp [h s hs]
theorem adj_lt {s : Stamp} {m : Int} : ∀ (l : List Count) (o : List Count),(∀ x ∈ l,0 < Yi s x.stamp) → l.foldl (X3 s m) (o,false) = (o ++ l,false)
 | [],o,_=>by simp
 | x :: l,o,h=>by
  have h1:=h x (by simp)
  have hne : x.stamp ≠ s:=fun e=>by rw [e,Kx] at h1;omega
  have h2 : decide (Yi s x.stamp ≤ 0) = false:=decide_eq_false (by omega)
  rw [List.foldl_cons]
  have e1 : X3 s m (o,false) x = (o ++ [x],false):=by simp [X3,h2,hne]
  rw [e1,adj_lt l _ fun y hy=>h y (by simp [hy]),List.append_assoc];rfl
theorem Aw {s : Stamp} {m : Int} : ∀ (l : List Count) (o : List Count),(∀ x ∈ l,x.stamp ≠ s) → l.foldl (X3 s m) (o,true) = (o ++ l,true)
 | [],o,_=>by simp
 | x :: l,o,h=>by
  have hne:=h x (by simp)
  rw [List.foldl_cons]
  have e1 : X3 s m (o,true) x = (o ++ [x],true):=by simp [X3,hne]
  rw [e1,Aw l _ fun y hy=>h y (by simp [hy]),List.append_assoc];rfl
theorem stamp_ne {a : Stamp} (h : Yi s a < 0) : a ≠ s:=fun e=>by rw [e,Kx] at h;omega
theorem adj_tab (hA : ∀ a ∈ A,0 < Yi s a) (hB : ∀ b ∈ B,Yi s b < 0) (hm : m ≠ 0) : Ax (Y4 f A ++ Y4 f [s] ++ Y4 f B) s m = Y4 f A ++ [⟨s,m⟩] ++ Y4 f B:=by
 have h1 : ∀ x ∈ Y4 f A,0 < Yi s x.stamp:=fun x hx=>hA _ (Gx hx).1
 have h2 : ∀ x ∈ Y4 f B,x.stamp ≠ s:=fun x hx=>stamp_ne (hB _ (Gx hx).1)
 have h0 : (m == 0) = false:=by simpa using hm
 have e : U0 s m (Y4 f A ++ Y4 f [s] ++ Y4 f B) = ((Y4 f [s] ++ Y4 f B).foldl (X3 s m) (Y4 f A,false)):=by
  unfold U0
  rw [h0,List.append_assoc,List.foldl_append,adj_lt _ _ h1,List.nil_append]
 unfold Ax
 rw [e,Cw]
 by_cases hf : f s = 0
 ·rw [if_pos hf,List.nil_append]
  cases hT : Y4 f B with
  | nil=>simp
  | cons b t =>
   rw [hT] at h2
   have hb : Yi s b.stamp < 0:=hB _ (Gx (f:=f) (l:=B) (by rw [hT];simp)).1
   rw [List.foldl_cons]
   have e1 : X3 s m (Y4 f A,false) b = (Y4 f A ++ [⟨s,m⟩] ++ [b],true):=by
    have : decide (Yi s b.stamp ≤ 0) = true:=decide_eq_true (by omega)
    simp [X3,this,h2 b (by simp)]
   rw [e1,Aw _ _ fun x hx=>h2 x (by simp [hx])]
   simp
 ·rw [if_neg hf,List.foldl_append,List.foldl_cons,List.foldl_nil]
  have e1 : X3 s m (Y4 f A,false) ⟨s,(f s : Int)⟩ = (Y4 f A ++ [⟨s,m⟩],true):=by
   simp [X3,Kx]
  rw [e1,Aw _ _ h2]
  simp
theorem Ho : ∀ (l t : List Count),(∀ x ∈ l,x.stamp ≠ s) → Ys (l ++ t) s = Ys t s
 | [],t,_=>rfl
 | x :: l,t,h=>by
  rw [List.cons_append,Ys,if_neg (h x (by simp)),Ho l t fun y hy=>h y (by simp [hy])]
theorem countAt_none (l : List Count) (h : ∀ x ∈ l,x.stamp ≠ s) : Ys l s = 0:=by
 have:=Ho l [] h
 rw [List.append_nil] at this;exact this
theorem countAt_tab (hA : ∀ a ∈ A,0 < Yi s a) (hB : ∀ b ∈ B,Yi s b < 0) : Ys (Y4 f A ++ Y4 f [s] ++ Y4 f B) s = (f s : Int):=by
 have h2 : ∀ x ∈ Y4 f B,x.stamp ≠ s:=fun x hx=>stamp_ne (hB _ (Gx hx).1)
 rw [List.append_assoc,Ho _ _ (fun x hx e=>by have:=hA _ (Gx hx).1;rw [e,Kx] at this;omega),Cw]
 by_cases hf : f s = 0
 ·rw [if_pos hf,List.nil_append,countAt_none _ h2,hf];rfl
 ·rw [if_neg hf,List.cons_append,Ys,if_pos rfl]
theorem tab_ok (hf : ∀ s,f s ≤ 1000000) : Vk (Y4 f Vq) = true:=by
 have hp : (Y4 f Vq).Pairwise fun a b=>Yi a.stamp b.stamp < 0:=by
  unfold Y4
  rw [List.pairwise_map]
  exact allS_sorted.filter _
 refine List.all_eq_true.2 fun j hj=>?_
 have hj:=List.mem_range.1 hj
 rw [Ar hj]
 obtain ⟨h1,h2,h3⟩:=Gx (List.getElem_mem hj)
 have h4:=hf (Y4 f Vq)[j].stamp
 have e1 : Yo (Y4 f Vq)[j].stamp = true:=allS_ok _ h1
 have e2 : Y2 (Y4 f Vq)[j].n (-1000000) 1000000 = true:=Gw.2 (by omega)
 have e3 : ((Y4 f Vq)[j].n == 0) = false:=by rw [beq_eq_false_iff_ne];omega
 rw [e1,e2,e3]
 by_cases h0 : 0 < j
 ·have hl : j - 1 < (Y4 f Vq).length:=by omega
  have:=List.pairwise_iff_getElem.1 hp (j - 1) j hl hj (by omega)
  rw [X2 hl,decide_eq_false (show ¬ 0 ≤ Yi (Y4 f Vq)[j - 1].stamp (Y4 f Vq)[j].stamp from by omega)]
  simp
 ·rw [decide_eq_false (show ¬ (0 : Int) < ((j : Nat) : Int) from by omega)]
  simp
end
def Kz (rs : List Record) (s : Stamp) : Nat:=rs.countP fun r=>decide (r.stamp = s)
theorem Ci (rs : List Record) (r : Record) (s : Stamp) : Kz (rs ++ [r]) s = Kz rs s + if r.stamp = s then 1 else 0:=by
 simp only [Kz,List.countP_append,List.countP_cons,List.countP_nil];simp
theorem cntS_le (rs : List Record) (s : Stamp) : Kz rs s ≤ rs.length:=List.countP_le_length
theorem tab_snoc {rs : List Record} {r : Record} {A B : List Stamp} (hE : Vq = A ++ r.stamp :: B) (hA : ∀ a ∈ A,0 < Yi r.stamp a) (hB : ∀ b ∈ B,Yi r.stamp b < 0) :
  Y4 (Kz (rs ++ [r])) Vq = Y4 (Kz rs) A ++ [⟨r.stamp,(Kz rs r.stamp : Int) + 1⟩] ++ Y4 (Kz rs) B:=by
 have hne : ∀ s,r.stamp ≠ s → Kz (rs ++ [r]) s = Kz rs s:=fun s h=>by rw [Ci,if_neg h];rfl
 have he : Kz (rs ++ [r]) r.stamp = Kz rs r.stamp + 1:=by rw [Ci,if_pos rfl]
 rw [hE,show A ++ r.stamp :: B = A ++ [r.stamp] ++ B from by simp,Gd,Gd,Cw,he,if_neg (by omega),
  Ht (l:=A) (fun s hs=>hne s fun e=>by have:=hA s hs;rw [e,Kx] at this;omega),Ht (l:=B) (fun s hs=>hne s fun e=>by have:=hB s hs;rw [e,Kx] at this;omega)]
 simp
theorem tab_same {rs : List Record} {r : Record} (h : ¬ Yo r.stamp = true) : Y4 (Kz (rs ++ [r])) Vq = Y4 (Kz rs) Vq :=
 Ht fun s hs=>by rw [Ci,if_neg (fun e=>h (by rw [e];exact allS_ok s hs))];rfl
theorem Cn {α : Type} {P : List α → Prop} (h0 : P []) (h1 : ∀ l x,P l → P (l ++ [x])) (l : List α) : P l:=by
 rw [← List.reverse_reverse l]
 induction l.reverse with
 | nil=>exact h0
 | cons x t ih=>rw [List.reverse_cons];exact h1 _ _ ih
theorem cntTo_tab (rs : List Record) : rs.length ≤ 1000000 → Vd rs = Y4 (Kz rs) Vq:=by
 refine Cn (P:=fun rs=>rs.length ≤ 1000000 → Vd rs = Y4 (Kz rs) Vq) (fun _=>(tab_nil fun _ _=>rfl).symm) (fun rs r ih hl=>?_) rs
 rw [List.length_append,List.length_singleton] at hl
 have ih:=ih (by omega)
 have e : Vd (rs ++ [r]) = (Ua (Vd rs) r.stamp 1).1:=by unfold Vd;rw [List.foldl_append];rfl
 have hle:=cntS_le rs r.stamp
 have hok : Vk (Y4 (Kz rs) Vq) = true:=tab_ok fun s=>Nat.le_trans (cntS_le rs s) (by omega)
 rw [e,ih]
 cases hs : Yo r.stamp with
 | false=>rw [adj_0 (by simp [Cj,hs]),tab_same (by rw [hs];simp)]
 | true =>
  obtain ⟨A,B,hE,hA,hB⟩:=Au hs
  have hT : Y4 (Kz rs) Vq = Y4 (Kz rs) A ++ Y4 (Kz rs) [r.stamp] ++ Y4 (Kz rs) B:=by
   rw [hE,show A ++ r.stamp :: B = A ++ [r.stamp] ++ B from by simp,Gd,Gd]
  have hc : IntKind.i64.wrap (Ys (Y4 (Kz rs) Vq) r.stamp + 1) = (Kz rs r.stamp : Int) + 1:=by
   rw [hT,countAt_tab hA hB,Ke (by omega) (by omega)]
  rw [adj_2 (by rw [Cj,hok,hs];rfl) (by rw [hc,Gw.2 (by omega)];rfl),hc]
  show Ax _ _ _ = _
  rw [hT,adj_tab hA hB (by omega),tab_snoc hE hA hB]
theorem runTo_tab (rs : List Record) : rs.length ≤ 1000000 → (rs.Pairwise fun a b=>¬ Kl b a < 0) → Xl rs = Y4 (Kz rs) Vq:=by
 refine Cn (P:=fun rs=>rs.length ≤ 1000000 → (rs.Pairwise fun a b=>¬ Kl b a < 0) → Xl rs = Y4 (Kz rs) Vq) (fun _ _=>(tab_nil fun _ _=>rfl).symm) (fun rs r ih hl hp=>?_) rs
 rw [List.length_append,List.length_singleton] at hl
 rw [List.pairwise_append] at hp
 have ih:=ih (by omega) hp.1
 have e : Xl (rs ++ [r]) = Ur (Xl rs) r:=by unfold Xl;rw [List.foldl_append];rfl
 have hle:=cntS_le rs r.stamp
 rw [e,ih]
 cases hs : Yo r.stamp with
 | false=>rw [Ac (by rw [hs];rfl),tab_same (by rw [hs];simp)]
 | true =>
  obtain ⟨A,B,hE,hA,hB⟩:=Au hs
  have hB0 : Y4 (Kz rs) B = []:=tab_nil fun b hb=>by
   refine List.countP_eq_zero.2 fun x hx=>?_
   have h1:=hp.2.2 x hx r (by simp)
   have h2:=hB b hb
   intro h3
   have h3 : x.stamp = b:=by simpa using h3
   refine h1 ?_
   have h4 : Yi r.stamp x.stamp < 0:=by rw [h3];exact h2
   rw [recOrd_1 (by simp;omega)];exact h4
  have hT : Y4 (Kz rs) Vq = Y4 (Kz rs) A ++ Y4 (Kz rs) [r.stamp]:=by
   rw [hE,show A ++ r.stamp :: B = A ++ [r.stamp] ++ B from by simp,Gd,Gd,hB0,List.append_nil]
  rw [tab_snoc hE hA hB,hB0,List.append_nil,hT,Cw]
  have hsa : (!Yo r.stamp) = false:=by rw [hs];rfl
  by_cases hf : Kz rs r.stamp = 0
  ·rw [if_pos hf,List.append_nil,Cp hsa,hf]
   ·simp
   ·cases hl : Y4 (Kz rs) A with
    | nil=>rfl
    | cons c t =>
     rw [Bool.and_eq_false_iff];right
     have hi : (c :: t).length - 1 < (c :: t).length:=by simp
     rw [X2 hi]
     have hm : (c :: t)[(c :: t).length - 1] ∈ Y4 (Kz rs) A:=by rw [hl];exact List.getElem_mem hi
     have:=hA _ (Gx hm).1
     exact decide_eq_false fun e=>by rw [e,Kx] at this;omega
  ·rw [if_neg hf]
   have hi : (Y4 (Kz rs) A ++ [(⟨r.stamp,(Kz rs r.stamp : Int)⟩ : Count)]).length - 1 < (Y4 (Kz rs) A ++ [(⟨r.stamp,(Kz rs r.stamp : Int)⟩ : Count)]).length:=by simp
   have hg : (Y4 (Kz rs) A ++ [(⟨r.stamp,(Kz rs r.stamp : Int)⟩ : Count)])[(Y4 (Kz rs) A ++ [(⟨r.stamp,(Kz rs r.stamp : Int)⟩ : Count)]).length - 1]'hi = ⟨r.stamp,(Kz rs r.stamp : Int)⟩:=by simp
   rw [Ab hsa (by rw [X2 hi,hg];simp) hi,hg]
   rw [Ke (by show (_ : Int) ≤ (Kz rs r.stamp : Int) + 1;omega) (by show (Kz rs r.stamp : Int) + 1 ≤ _;omega)]
   simp
theorem counts_same {rs : List Record} (h : rs.length ≤ 1000000) : Xl (Yq rs) = Vd rs:=by
 rw [runTo_tab _ (by rw [A7];exact h) (sortR_sorted rs),cntTo_tab rs h]
 exact Ht fun s _=>(C8 rs).countP_eq _
def mkCount (k : Nat) : Count:=⟨⟨((k : Nat) : Int),((k + 1 : Nat) : Int)⟩,((k + 1 + 1 : Nat) : Int)⟩
theorem A2 (g : Graph) : Yv g (Yk []) = true:=by
 rfl
theorem ws_fin {g : Graph} {o : Bool} {n : Int} {ys : List Record} : ((((((!o && (n == 0)) == ((!o) && (n == 0))) && (decide (((Yk ys).inputs) = ys))) && (((((Yk ys).sums).length : Nat) : Int) == 4)) && (((((Yk ys).queue).length : Nat) : Int) == 0)) && (Yv g (Yk []))) = true:=by
 rw [A2]
 simp [Yk]
end Go.Proofs.YtcpjlfikdobckaaGreat
