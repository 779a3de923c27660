/- The plain functions on lists and numbers that the contracts name, and what holds of them; no condition. -/
import Derived.Test.YteljajfcppmeiaaGreatLib2
namespace Go.Proofs.YteljajfcppmeiaaGreat
open Go Go.Proofs.YteljajfcppmeiaaGreat.X
def cntL {α : Type} (f : α → Nat) (xs : List α) : Nat:=xs.length + (xs.map f).sum
structure Stamp where
 epoch : Int
 turn : Int
 deriving DecidableEq,Inhabited
instance : Enc Stamp:=⟨fun x=>[.int .i64 x.epoch,.int .i64 x.turn],2,fun _=>rfl,fun _=>rfl,by decide⟩
structure Record where
 op : Int
 stamp : Stamp
 key : Int
 val : Int
 deriving DecidableEq,Inhabited
instance : Enc Record:=⟨fun x=>[.int .i64 x.op,.int .i64 x.stamp.epoch,.int .i64 x.stamp.turn,.int .i64 x.key,.int .i64 x.val],5,fun _=>rfl,fun _=>rfl,by decide⟩
structure Cell where
 op : Int
 epoch : Int
 key : Int
 val : Int
 deriving DecidableEq,Inhabited
instance : Enc Cell:=⟨fun x=>[.int .i64 x.op,.int .i64 x.epoch,.int .i64 x.key,.int .i64 x.val],4,fun _=>rfl,fun _=>rfl,by decide⟩
structure Done where
 epoch : Int
 capped : Bool
 deriving DecidableEq,Inhabited
instance : Enc Done:=⟨fun x=>[.int .i64 x.epoch,.bool x.capped],2,fun _=>rfl,fun _=>rfl,by decide⟩
structure Token where
 going : Bool
 place : Int
 sum : Int
 black : Bool
 capped : Bool
 deriving DecidableEq,Inhabited
instance : Enc Token:=⟨fun x=>[.bool x.going,.int .i64 x.place,.int .i64 x.sum,.bool x.black,.bool x.capped],5,fun _=>rfl,fun _=>rfl,by decide⟩
structure News where
 dest : Int
 epoch : Int
 capped : Bool
 deriving DecidableEq,Inhabited
instance : Enc News:=⟨fun x=>[.int .i64 x.dest,.int .i64 x.epoch,.bool x.capped],3,fun _=>rfl,fun _=>rfl,by decide⟩
structure Count where
 stamp : Stamp
 n : Int
 deriving DecidableEq,Inhabited
instance : Enc Count:=⟨fun x=>[.int .i64 x.stamp.epoch,.int .i64 x.stamp.turn,.int .i64 x.n],3,fun _=>rfl,fun _=>rfl,by decide⟩
structure Node where
 kind : Int
 a : Int
 b : Int
 outs : List Int
 deriving DecidableEq,Inhabited
instance : Dat Node:=⟨4,fun w lo hi cs x=>∃ o1,cs = [.int .i64 x.kind,.int .i64 x.a,.int .i64 x.b,o1] ∧ RdD w lo hi o1 x.outs,by decide,fun h=>by obtain ⟨o1,rfl,h1⟩:=h;exact rfl,fun h=>by obtain ⟨o1,rfl,h1⟩:=h;exact Qb rfl (Qb rfl (Qb rfl (Qb (RdD.one h1) (rfl)))),fun h s=>by obtain ⟨o1,rfl,h1⟩:=h;exact ⟨o1,rfl,RdD.same h1 s⟩,fun h a b=>by obtain ⟨o1,rfl,h1⟩:=h;exact ⟨o1,rfl,RdD.widen h1 a b⟩,fun h=>by obtain ⟨o1,rfl,h1⟩:=h;exact ⟨o1,rfl,RdD.any h1⟩⟩
theorem Node.op {w : World} {lo hi : Nat} {cs : List Value} {x : Node} (h : Dat.R w lo hi cs x) : ∃ o1,cs = [.int .i64 x.kind,.int .i64 x.a,.int .i64 x.b,o1] ∧ RdD w lo hi o1 x.outs:=h
theorem Node.mkR {w : World} {lo hi : Nat} {o1 : Value} (x : Node) (h1 : RdD w lo hi o1 x.outs) : Dat.R w lo hi [.int .i64 x.kind,.int .i64 x.a,.int .i64 x.b,o1] x:=⟨o1,rfl,h1⟩
def Tk (x : Node) : Nat:=x.outs.length
structure Graph where
 nodes : List Node
 workers : Int
 cap : Int
 deriving DecidableEq,Inhabited
instance : Dat Graph:=⟨3,fun w lo hi cs x=>∃ o1,cs = [o1,.int .i64 x.workers,.int .i64 x.cap] ∧ RdD w lo hi o1 x.nodes,by decide,fun h=>by obtain ⟨o1,rfl,h1⟩:=h;exact rfl,fun h=>by obtain ⟨o1,rfl,h1⟩:=h;exact Qb (RdD.one h1) (Qb rfl (Qb rfl (rfl))),fun h s=>by obtain ⟨o1,rfl,h1⟩:=h;exact ⟨o1,rfl,RdD.same h1 s⟩,fun h a b=>by obtain ⟨o1,rfl,h1⟩:=h;exact ⟨o1,rfl,RdD.widen h1 a b⟩,fun h=>by obtain ⟨o1,rfl,h1⟩:=h;exact ⟨o1,rfl,RdD.any h1⟩⟩
theorem Graph.op {w : World} {lo hi : Nat} {cs : List Value} {x : Graph} (h : Dat.R w lo hi cs x) : ∃ o1,cs = [o1,.int .i64 x.workers,.int .i64 x.cap] ∧ RdD w lo hi o1 x.nodes:=h
theorem Graph.mkR {w : World} {lo hi : Nat} {o1 : Value} (x : Graph) (h1 : RdD w lo hi o1 x.nodes) : Dat.R w lo hi [o1,.int .i64 x.workers,.int .i64 x.cap] x:=⟨o1,rfl,h1⟩
def Uq (x : Graph) : Nat:=cntL Tk x.nodes
structure Worker where
 queue : List Record
 staged : List Record
 inputs : List Record
 cells : List Cell
 sums : List Int
 black : List Bool
 caps : List Bool
 dones : List Done
 deriving DecidableEq,Inhabited
instance : Dat Worker:=⟨8,fun w lo hi cs x=>∃ o1 o2 o3 o4 o5 o6 o7 o8,cs = [o1,o2,o3,o4,o5,o6,o7,o8] ∧ RdD w lo hi o1 x.queue ∧ RdD w lo hi o2 x.staged ∧ RdD w lo hi o3 x.inputs ∧ RdD w lo hi o4 x.cells ∧ RdD w lo hi o5 x.sums ∧ RdD w lo hi o6 x.black ∧ RdD w lo hi o7 x.caps ∧ RdD w lo hi o8 x.dones,by decide,fun h=>by obtain ⟨o1,o2,o3,o4,o5,o6,o7,o8,rfl,h1,h2,h3,h4,h5,h6,h7,h8⟩:=h;exact rfl,fun h=>by obtain ⟨o1,o2,o3,o4,o5,o6,o7,o8,rfl,h1,h2,h3,h4,h5,h6,h7,h8⟩:=h;exact Qb (RdD.one h1) (Qb (RdD.one h2) (Qb (RdD.one h3) (Qb (RdD.one h4) (Qb (RdD.one h5) (Qb (RdD.one h6) (Qb (RdD.one h7) (Qb (RdD.one h8) (rfl)))))))),fun h s=>by obtain ⟨o1,o2,o3,o4,o5,o6,o7,o8,rfl,h1,h2,h3,h4,h5,h6,h7,h8⟩:=h;exact ⟨o1,o2,o3,o4,o5,o6,o7,o8,rfl,RdD.same h1 s,RdD.same h2 s,RdD.same h3 s,RdD.same h4 s,RdD.same h5 s,RdD.same h6 s,RdD.same h7 s,RdD.same h8 s⟩,fun h a b=>by obtain ⟨o1,o2,o3,o4,o5,o6,o7,o8,rfl,h1,h2,h3,h4,h5,h6,h7,h8⟩:=h;exact ⟨o1,o2,o3,o4,o5,o6,o7,o8,rfl,RdD.widen h1 a b,RdD.widen h2 a b,RdD.widen h3 a b,RdD.widen h4 a b,RdD.widen h5 a b,RdD.widen h6 a b,RdD.widen h7 a b,RdD.widen h8 a b⟩,fun h=>by obtain ⟨o1,o2,o3,o4,o5,o6,o7,o8,rfl,h1,h2,h3,h4,h5,h6,h7,h8⟩:=h;exact ⟨o1,o2,o3,o4,o5,o6,o7,o8,rfl,RdD.any h1,RdD.any h2,RdD.any h3,RdD.any h4,RdD.any h5,RdD.any h6,RdD.any h7,RdD.any h8⟩⟩
theorem Worker.op {w : World} {lo hi : Nat} {cs : List Value} {x : Worker} (h : Dat.R w lo hi cs x) : ∃ o1 o2 o3 o4 o5 o6 o7 o8,cs = [o1,o2,o3,o4,o5,o6,o7,o8] ∧ RdD w lo hi o1 x.queue ∧ RdD w lo hi o2 x.staged ∧ RdD w lo hi o3 x.inputs ∧ RdD w lo hi o4 x.cells ∧ RdD w lo hi o5 x.sums ∧ RdD w lo hi o6 x.black ∧ RdD w lo hi o7 x.caps ∧ RdD w lo hi o8 x.dones:=h
theorem Worker.mkR {w : World} {lo hi : Nat} {o1 o2 o3 o4 o5 o6 o7 o8 : Value} (x : Worker) (h1 : RdD w lo hi o1 x.queue) (h2 : RdD w lo hi o2 x.staged) (h3 : RdD w lo hi o3 x.inputs) (h4 : RdD w lo hi o4 x.cells) (h5 : RdD w lo hi o5 x.sums) (h6 : RdD w lo hi o6 x.black) (h7 : RdD w lo hi o7 x.caps) (h8 : RdD w lo hi o8 x.dones) : Dat.R w lo hi [o1,o2,o3,o4,o5,o6,o7,o8] x:=⟨o1,o2,o3,o4,o5,o6,o7,o8,rfl,h1,h2,h3,h4,h5,h6,h7,h8⟩
def Q4 (x : Worker) : Nat:=x.queue.length + x.staged.length + x.inputs.length + x.cells.length + x.sums.length + x.black.length + x.caps.length + x.dones.length
structure Link where
 cap : Int
 queue : List Record
 credits : Int
 back : Int
 sent : Int
 got : Int
 deriving DecidableEq,Inhabited
instance : Dat Link:=⟨6,fun w lo hi cs x=>∃ o1,cs = [.int .i64 x.cap,o1,.int .i64 x.credits,.int .i64 x.back,.int .i64 x.sent,.int .i64 x.got] ∧ RdD w lo hi o1 x.queue,by decide,fun h=>by obtain ⟨o1,rfl,h1⟩:=h;exact rfl,fun h=>by obtain ⟨o1,rfl,h1⟩:=h;exact Qb rfl (Qb (RdD.one h1) (Qb rfl (Qb rfl (Qb rfl (Qb rfl (rfl)))))),fun h s=>by obtain ⟨o1,rfl,h1⟩:=h;exact ⟨o1,rfl,RdD.same h1 s⟩,fun h a b=>by obtain ⟨o1,rfl,h1⟩:=h;exact ⟨o1,rfl,RdD.widen h1 a b⟩,fun h=>by obtain ⟨o1,rfl,h1⟩:=h;exact ⟨o1,rfl,RdD.any h1⟩⟩
theorem Link.op {w : World} {lo hi : Nat} {cs : List Value} {x : Link} (h : Dat.R w lo hi cs x) : ∃ o1,cs = [.int .i64 x.cap,o1,.int .i64 x.credits,.int .i64 x.back,.int .i64 x.sent,.int .i64 x.got] ∧ RdD w lo hi o1 x.queue:=h
theorem Link.mkR {w : World} {lo hi : Nat} {o1 : Value} (x : Link) (h1 : RdD w lo hi o1 x.queue) : Dat.R w lo hi [.int .i64 x.cap,o1,.int .i64 x.credits,.int .i64 x.back,.int .i64 x.sent,.int .i64 x.got] x:=⟨o1,rfl,h1⟩
def cntLink (x : Link) : Nat:=x.queue.length
structure Cluster where
 graph : Graph
 workers : List Worker
 links : List Link
 tokens : List Token
 news : List News
 deriving DecidableEq,Inhabited
instance : Dat Cluster:=⟨7,fun w lo hi cs x=>∃ o1 o2 o3 o4 o5,cs = [o1,.int .i64 x.graph.workers,.int .i64 x.graph.cap,o2,o3,o4,o5] ∧ RdD w lo hi o1 x.graph.nodes ∧ RdD w lo hi o2 x.workers ∧ RdD w lo hi o3 x.links ∧ RdD w lo hi o4 x.tokens ∧ RdD w lo hi o5 x.news,by decide,fun h=>by obtain ⟨o1,o2,o3,o4,o5,rfl,h1,h2,h3,h4,h5⟩:=h;exact rfl,fun h=>by obtain ⟨o1,o2,o3,o4,o5,rfl,h1,h2,h3,h4,h5⟩:=h;exact Qb (RdD.one h1) (Qb rfl (Qb rfl (Qb (RdD.one h2) (Qb (RdD.one h3) (Qb (RdD.one h4) (Qb (RdD.one h5) (rfl))))))),fun h s=>by obtain ⟨o1,o2,o3,o4,o5,rfl,h1,h2,h3,h4,h5⟩:=h;exact ⟨o1,o2,o3,o4,o5,rfl,RdD.same h1 s,RdD.same h2 s,RdD.same h3 s,RdD.same h4 s,RdD.same h5 s⟩,fun h a b=>by obtain ⟨o1,o2,o3,o4,o5,rfl,h1,h2,h3,h4,h5⟩:=h;exact ⟨o1,o2,o3,o4,o5,rfl,RdD.widen h1 a b,RdD.widen h2 a b,RdD.widen h3 a b,RdD.widen h4 a b,RdD.widen h5 a b⟩,fun h=>by obtain ⟨o1,o2,o3,o4,o5,rfl,h1,h2,h3,h4,h5⟩:=h;exact ⟨o1,o2,o3,o4,o5,rfl,RdD.any h1,RdD.any h2,RdD.any h3,RdD.any h4,RdD.any h5⟩⟩
theorem Cluster.op {w : World} {lo hi : Nat} {cs : List Value} {x : Cluster} (h : Dat.R w lo hi cs x) : ∃ o1 o2 o3 o4 o5,cs = [o1,.int .i64 x.graph.workers,.int .i64 x.graph.cap,o2,o3,o4,o5] ∧ RdD w lo hi o1 x.graph.nodes ∧ RdD w lo hi o2 x.workers ∧ RdD w lo hi o3 x.links ∧ RdD w lo hi o4 x.tokens ∧ RdD w lo hi o5 x.news:=h
theorem Cluster.mkR {w : World} {lo hi : Nat} {o1 o2 o3 o4 o5 : Value} (x : Cluster) (h1 : RdD w lo hi o1 x.graph.nodes) (h2 : RdD w lo hi o2 x.workers) (h3 : RdD w lo hi o3 x.links) (h4 : RdD w lo hi o4 x.tokens) (h5 : RdD w lo hi o5 x.news) : Dat.R w lo hi [o1,.int .i64 x.graph.workers,.int .i64 x.graph.cap,o2,o3,o4,o5] x:=⟨o1,o2,o3,o4,o5,rfl,h1,h2,h3,h4,h5⟩
def cntCluster (x : Cluster) : Nat:=Uq x.graph + cntL Q4 x.workers + cntL cntLink x.links + x.tokens.length + x.news.length
theorem Node.opD {w : World} {lo hi : Nat} {q0 q1 q2 o1 : Value} {x : Node} (h : Dat.R w lo hi [q0,q1,q2,o1] x) : RdD w lo hi o1 x.outs:=by
 obtain ⟨u,e,h1⟩:=Node.op h
 simp only [List.cons.injEq,and_true] at e
 obtain ⟨rfl,rfl,rfl,rfl⟩:=e
 exact h1
theorem Graph.opD {w : World} {lo hi : Nat} {o1 q1 q2 : Value} {x : Graph} (h : Dat.R w lo hi [o1,q1,q2] x) : RdD w lo hi o1 x.nodes:=by
 obtain ⟨u,e,h1⟩:=Graph.op h
 simp only [List.cons.injEq,and_true] at e
 obtain ⟨rfl,rfl,rfl⟩:=e
 exact h1
theorem Worker.opD {w : World} {lo hi : Nat} {o1 o2 o3 o4 o5 o6 o7 o8 : Value} {x : Worker} (h : Dat.R w lo hi [o1,o2,o3,o4,o5,o6,o7,o8] x) : RdD w lo hi o1 x.queue ∧ RdD w lo hi o2 x.staged ∧ RdD w lo hi o3 x.inputs ∧ RdD w lo hi o4 x.cells ∧ RdD w lo hi o5 x.sums ∧ RdD w lo hi o6 x.black ∧ RdD w lo hi o7 x.caps ∧ RdD w lo hi o8 x.dones:=by
 obtain ⟨u0,u1,u2,u3,u4,u5,u6,u7,e,h0,h1,h2,h3,h4,h5,h6,h7⟩:=Worker.op h
 simp only [List.cons.injEq,and_true] at e
 obtain ⟨rfl,rfl,rfl,rfl,rfl,rfl,rfl,rfl⟩:=e
 exact ⟨h0,h1,h2,h3,h4,h5,h6,h7⟩
theorem Link.opD {w : World} {lo hi : Nat} {q0 o1 q2 q3 q4 q5 : Value} {x : Link} (h : Dat.R w lo hi [q0,o1,q2,q3,q4,q5] x) : RdD w lo hi o1 x.queue:=by
 obtain ⟨u,e,h1⟩:=Link.op h
 simp only [List.cons.injEq,and_true] at e
 obtain ⟨rfl,rfl,rfl,rfl,rfl,rfl⟩:=e
 exact h1
theorem Cluster.opD {w : World} {lo hi : Nat} {o1 q1 q2 o2 o3 o4 o5 : Value} {x : Cluster} (h : Dat.R w lo hi [o1,q1,q2,o2,o3,o4,o5] x) : RdD w lo hi o1 x.graph.nodes ∧ RdD w lo hi o2 x.workers ∧ RdD w lo hi o3 x.links ∧ RdD w lo hi o4 x.tokens ∧ RdD w lo hi o5 x.news:=by
 obtain ⟨u0,u1,u2,u3,u4,e,h0,h1,h2,h3,h4⟩:=Cluster.op h
 simp only [List.cons.injEq,and_true] at e
 obtain ⟨rfl,rfl,rfl,rfl,rfl,rfl,rfl⟩:=e
 exact ⟨h0,h1,h2,h3,h4⟩
instance : Own1 Node:={ (inferInstance : Dat Node) with
 O:=fun w lo hi cs x=>∃ o1,cs = [.int .i64 x.kind,.int .i64 x.a,.int .i64 x.b,o1] ∧ SepL [o1] ∧ Own w lo hi 1 o1 (List.flatMap (Enc.enc (α:=Int)) x.outs)
 rd:=fun ⟨o1,e,s,h1⟩=>⟨o1,e,h1.rdD⟩
 kp:=fun ⟨o1,e,s,h1⟩ k=>⟨o1,e,s,h1.kp (k.sub (Vn (by rw [e];simp)))⟩
 wide:=fun ⟨o1,e,s,h1⟩ a b=>⟨o1,e,s,h1.widen a b⟩
 inn:=by rintro w lo hi cs x ⟨o1,rfl,s,h1⟩;exact FpA.all ⟨(fun _ h=>absurd h List.not_mem_nil),(fun _ h=>absurd h List.not_mem_nil),(fun _ h=>absurd h List.not_mem_nil),h1.innb,trivial⟩
 nd:=by rintro w lo hi cs x ⟨o1,rfl,s,h1⟩;exact (show (Uo [o1]).Nodup from SepL.nd s) }
theorem Node.opO {w : World} {lo hi : Nat} {cs : List Value} {x : Node} (h : Own1.O w lo hi cs x) : ∃ o1,cs = [.int .i64 x.kind,.int .i64 x.a,.int .i64 x.b,o1] ∧ SepL [o1] ∧ Own w lo hi 1 o1 (List.flatMap (Enc.enc (α:=Int)) x.outs):=h
theorem Node.mkO {w : World} {lo hi : Nat} {o1 : Value} (x : Node) (s : SepL [o1]) (h1 : Own w lo hi 1 o1 (List.flatMap (Enc.enc (α:=Int)) x.outs)) : Own1.O w lo hi [.int .i64 x.kind,.int .i64 x.a,.int .i64 x.b,o1] x:=⟨o1,rfl,s,h1⟩
theorem Node.opL {w : World} {lo hi : Nat} {q0 q1 q2 o1 : Value} {x : Node} (h : Own1.O w lo hi [q0,q1,q2,o1] x) : SepL [o1] ∧ Own w lo hi 1 o1 (List.flatMap (Enc.enc (α:=Int)) x.outs):=by
 obtain ⟨p1,e,s,h1⟩:=h
 simp only [List.cons.injEq,and_true] at e
 obtain ⟨rfl,rfl,rfl,rfl⟩:=e
 exact ⟨s,h1⟩
instance : Own1 Worker:={ (inferInstance : Dat Worker) with
 O:=fun w lo hi cs x=>∃ o1 o2 o3 o4 o5 o6 o7 o8,cs = [o1,o2,o3,o4,o5,o6,o7,o8] ∧ SepL [o1,o2,o3,o4,o5,o6,o7,o8] ∧ Own w lo hi 5 o1 (List.flatMap (Enc.enc (α:=Record)) x.queue) ∧ Own w lo hi 5 o2 (List.flatMap (Enc.enc (α:=Record)) x.staged) ∧ Own w lo hi 5 o3 (List.flatMap (Enc.enc (α:=Record)) x.inputs) ∧ Own w lo hi 4 o4 (List.flatMap (Enc.enc (α:=Cell)) x.cells) ∧ Own w lo hi 1 o5 (List.flatMap (Enc.enc (α:=Int)) x.sums) ∧ Own w lo hi 1 o6 (List.flatMap (Enc.enc (α:=Bool)) x.black) ∧ Own w lo hi 1 o7 (List.flatMap (Enc.enc (α:=Bool)) x.caps) ∧ Own w lo hi 2 o8 (List.flatMap (Enc.enc (α:=Done)) x.dones)
 rd:=fun ⟨o1,o2,o3,o4,o5,o6,o7,o8,e,s,h1,h2,h3,h4,h5,h6,h7,h8⟩=>⟨o1,o2,o3,o4,o5,o6,o7,o8,e,h1.rdD,h2.rdD,h3.rdD,h4.rdD,h5.rdD,h6.rdD,h7.rdD,h8.rdD⟩
 kp:=fun ⟨o1,o2,o3,o4,o5,o6,o7,o8,e,s,h1,h2,h3,h4,h5,h6,h7,h8⟩ k=>⟨o1,o2,o3,o4,o5,o6,o7,o8,e,s,h1.kp (k.sub (Vn (by rw [e];simp))),h2.kp (k.sub (Vn (by rw [e];simp))),h3.kp (k.sub (Vn (by rw [e];simp))),h4.kp (k.sub (Vn (by rw [e];simp))),h5.kp (k.sub (Vn (by rw [e];simp))),h6.kp (k.sub (Vn (by rw [e];simp))),h7.kp (k.sub (Vn (by rw [e];simp))),h8.kp (k.sub (Vn (by rw [e];simp)))⟩
 wide:=fun ⟨o1,o2,o3,o4,o5,o6,o7,o8,e,s,h1,h2,h3,h4,h5,h6,h7,h8⟩ a b=>⟨o1,o2,o3,o4,o5,o6,o7,o8,e,s,h1.widen a b,h2.widen a b,h3.widen a b,h4.widen a b,h5.widen a b,h6.widen a b,h7.widen a b,h8.widen a b⟩
 inn:=by rintro w lo hi cs x ⟨o1,o2,o3,o4,o5,o6,o7,o8,rfl,s,h1,h2,h3,h4,h5,h6,h7,h8⟩;exact FpA.all ⟨h1.innb,h2.innb,h3.innb,h4.innb,h5.innb,h6.innb,h7.innb,h8.innb,trivial⟩
 nd:=by rintro w lo hi cs x ⟨o1,o2,o3,o4,o5,o6,o7,o8,rfl,s,h1,h2,h3,h4,h5,h6,h7,h8⟩;exact (show (Uo [o1,o2,o3,o4,o5,o6,o7,o8]).Nodup from SepL.nd s) }
theorem Worker.opO {w : World} {lo hi : Nat} {cs : List Value} {x : Worker} (h : Own1.O w lo hi cs x) : ∃ o1 o2 o3 o4 o5 o6 o7 o8,cs = [o1,o2,o3,o4,o5,o6,o7,o8] ∧ SepL [o1,o2,o3,o4,o5,o6,o7,o8] ∧ Own w lo hi 5 o1 (List.flatMap (Enc.enc (α:=Record)) x.queue) ∧ Own w lo hi 5 o2 (List.flatMap (Enc.enc (α:=Record)) x.staged) ∧ Own w lo hi 5 o3 (List.flatMap (Enc.enc (α:=Record)) x.inputs) ∧ Own w lo hi 4 o4 (List.flatMap (Enc.enc (α:=Cell)) x.cells) ∧ Own w lo hi 1 o5 (List.flatMap (Enc.enc (α:=Int)) x.sums) ∧ Own w lo hi 1 o6 (List.flatMap (Enc.enc (α:=Bool)) x.black) ∧ Own w lo hi 1 o7 (List.flatMap (Enc.enc (α:=Bool)) x.caps) ∧ Own w lo hi 2 o8 (List.flatMap (Enc.enc (α:=Done)) x.dones):=h
theorem Worker.mkO {w : World} {lo hi : Nat} {o1 o2 o3 o4 o5 o6 o7 o8 : Value} (x : Worker) (s : SepL [o1,o2,o3,o4,o5,o6,o7,o8]) (h1 : Own w lo hi 5 o1 (List.flatMap (Enc.enc (α:=Record)) x.queue)) (h2 : Own w lo hi 5 o2 (List.flatMap (Enc.enc (α:=Record)) x.staged)) (h3 : Own w lo hi 5 o3 (List.flatMap (Enc.enc (α:=Record)) x.inputs)) (h4 : Own w lo hi 4 o4 (List.flatMap (Enc.enc (α:=Cell)) x.cells)) (h5 : Own w lo hi 1 o5 (List.flatMap (Enc.enc (α:=Int)) x.sums)) (h6 : Own w lo hi 1 o6 (List.flatMap (Enc.enc (α:=Bool)) x.black)) (h7 : Own w lo hi 1 o7 (List.flatMap (Enc.enc (α:=Bool)) x.caps)) (h8 : Own w lo hi 2 o8 (List.flatMap (Enc.enc (α:=Done)) x.dones)) : Own1.O w lo hi [o1,o2,o3,o4,o5,o6,o7,o8] x:=⟨o1,o2,o3,o4,o5,o6,o7,o8,rfl,s,h1,h2,h3,h4,h5,h6,h7,h8⟩
theorem Worker.opL {w : World} {lo hi : Nat} {o1 o2 o3 o4 o5 o6 o7 o8 : Value} {x : Worker} (h : Own1.O w lo hi [o1,o2,o3,o4,o5,o6,o7,o8] x) : SepL [o1,o2,o3,o4,o5,o6,o7,o8] ∧ Own w lo hi 5 o1 (List.flatMap (Enc.enc (α:=Record)) x.queue) ∧ Own w lo hi 5 o2 (List.flatMap (Enc.enc (α:=Record)) x.staged) ∧ Own w lo hi 5 o3 (List.flatMap (Enc.enc (α:=Record)) x.inputs) ∧ Own w lo hi 4 o4 (List.flatMap (Enc.enc (α:=Cell)) x.cells) ∧ Own w lo hi 1 o5 (List.flatMap (Enc.enc (α:=Int)) x.sums) ∧ Own w lo hi 1 o6 (List.flatMap (Enc.enc (α:=Bool)) x.black) ∧ Own w lo hi 1 o7 (List.flatMap (Enc.enc (α:=Bool)) x.caps) ∧ Own w lo hi 2 o8 (List.flatMap (Enc.enc (α:=Done)) x.dones):=by
 obtain ⟨p1,p2,p3,p4,p5,p6,p7,p8,e,s,h1,h2,h3,h4,h5,h6,h7,h8⟩:=h
 simp only [List.cons.injEq,and_true] at e
 obtain ⟨rfl,rfl,rfl,rfl,rfl,rfl,rfl,rfl⟩:=e
 exact ⟨s,h1,h2,h3,h4,h5,h6,h7,h8⟩
instance : Own1 Link:={ (inferInstance : Dat Link) with
 O:=fun w lo hi cs x=>∃ o1,cs = [.int .i64 x.cap,o1,.int .i64 x.credits,.int .i64 x.back,.int .i64 x.sent,.int .i64 x.got] ∧ SepL [o1] ∧ Own w lo hi 5 o1 (List.flatMap (Enc.enc (α:=Record)) x.queue)
 rd:=fun ⟨o1,e,s,h1⟩=>⟨o1,e,h1.rdD⟩
 kp:=fun ⟨o1,e,s,h1⟩ k=>⟨o1,e,s,h1.kp (k.sub (Vn (by rw [e];simp)))⟩
 wide:=fun ⟨o1,e,s,h1⟩ a b=>⟨o1,e,s,h1.widen a b⟩
 inn:=by rintro w lo hi cs x ⟨o1,rfl,s,h1⟩;exact FpA.all ⟨(fun _ h=>absurd h List.not_mem_nil),h1.innb,(fun _ h=>absurd h List.not_mem_nil),(fun _ h=>absurd h List.not_mem_nil),(fun _ h=>absurd h List.not_mem_nil),(fun _ h=>absurd h List.not_mem_nil),trivial⟩
 nd:=by rintro w lo hi cs x ⟨o1,rfl,s,h1⟩;exact (show (Uo [o1]).Nodup from SepL.nd s) }
theorem Link.opO {w : World} {lo hi : Nat} {cs : List Value} {x : Link} (h : Own1.O w lo hi cs x) : ∃ o1,cs = [.int .i64 x.cap,o1,.int .i64 x.credits,.int .i64 x.back,.int .i64 x.sent,.int .i64 x.got] ∧ SepL [o1] ∧ Own w lo hi 5 o1 (List.flatMap (Enc.enc (α:=Record)) x.queue):=h
theorem Link.mkO {w : World} {lo hi : Nat} {o1 : Value} (x : Link) (s : SepL [o1]) (h1 : Own w lo hi 5 o1 (List.flatMap (Enc.enc (α:=Record)) x.queue)) : Own1.O w lo hi [.int .i64 x.cap,o1,.int .i64 x.credits,.int .i64 x.back,.int .i64 x.sent,.int .i64 x.got] x:=⟨o1,rfl,s,h1⟩
theorem Link.opL {w : World} {lo hi : Nat} {q0 q1 q2 q3 q4 o1 : Value} {x : Link} (h : Own1.O w lo hi [q0,o1,q1,q2,q3,q4] x) : SepL [o1] ∧ Own w lo hi 5 o1 (List.flatMap (Enc.enc (α:=Record)) x.queue):=by
 obtain ⟨p1,e,s,h1⟩:=h
 simp only [List.cons.injEq,and_true] at e
 obtain ⟨rfl,rfl,rfl,rfl,rfl,rfl⟩:=e
 exact ⟨s,h1⟩
def okStamp (x : Stamp) : Prop:=(rg x.epoch) ∧ (rg x.turn)
def Te (x : Record) : Prop:=(rg x.op) ∧ (okStamp x.stamp) ∧ (rg x.key) ∧ (rg x.val)
def okCell (x : Cell) : Prop:=(rg x.op) ∧ (rg x.epoch) ∧ (rg x.key) ∧ (rg x.val)
def okDone (x : Done) : Prop:=(rg x.epoch) ∧ (True)
def okToken (x : Token) : Prop:=(True) ∧ (rg x.place) ∧ (rg x.sum) ∧ (True) ∧ (True)
def okNews (x : News) : Prop:=(rg x.dest) ∧ (rg x.epoch) ∧ (True)
def okCount (x : Count) : Prop:=(okStamp x.stamp) ∧ (rg x.n)
def okNode (x : Node) : Prop:=(rg x.kind) ∧ (rg x.a) ∧ (rg x.b) ∧ (∀ y ∈ x.outs,rg y)
def okGraph (x : Graph) : Prop:=(∀ y ∈ x.nodes,okNode y) ∧ (rg x.workers) ∧ (rg x.cap)
def okWorker (x : Worker) : Prop:=(∀ y ∈ x.queue,Te y) ∧ (∀ y ∈ x.staged,Te y) ∧ (∀ y ∈ x.inputs,Te y) ∧ (∀ y ∈ x.cells,okCell y) ∧ (∀ y ∈ x.sums,rg y) ∧ (∀ y ∈ x.black,True) ∧ (∀ y ∈ x.caps,True) ∧ (∀ y ∈ x.dones,okDone y)
def okLink (x : Link) : Prop:=(rg x.cap) ∧ (∀ y ∈ x.queue,Te y) ∧ (rg x.credits) ∧ (rg x.back) ∧ (rg x.sent) ∧ (rg x.got)
def okCluster (x : Cluster) : Prop:=(okGraph x.graph) ∧ (∀ y ∈ x.workers,okWorker y) ∧ (∀ y ∈ x.links,okLink y) ∧ (∀ y ∈ x.tokens,okToken y) ∧ (∀ y ∈ x.news,okNews y)
section
variable {w w' : World} {lo hi lo' hi' : Nat} {o1 o2 o3 o4 o5 : Value} {x : Cluster} {y : Option Nat}
def OwC (w : World) (lo hi : Nat) (o1 o2 o3 o4 o5 : Value) (x : Cluster) : Prop :=
 ∃ f1 f2 f3,OwF w lo hi o1 x.graph.nodes f1 ∧ OwF w lo hi o2 x.workers f2 ∧ OwF w lo hi o3 x.links f3 ∧ Own w lo hi 5 o4 (List.flatMap (Enc.enc (α:=Token)) x.tokens) ∧ Own w lo hi 3 o5 (List.flatMap (Enc.enc (α:=News)) x.news) ∧ DjL [f1,f2,f3,K8 o4,K8 o5]
theorem OwC.same (h : OwC w lo hi o1 o2 o3 o4 o5 x) (s : Same w w' lo hi) : OwC w' lo hi o1 o2 o3 o4 o5 x:=by
 obtain ⟨f1,f2,f3,h1,h2,h3,h4,h5,sp⟩:=h
 exact ⟨f1,f2,f3,h1.same s,h2.same s,h3.same s,h4.kp ⟨s.size,fun b hb hl=>s.block b (h4.in2 b hb).1 (h4.in2 b hb).2 hl⟩,h5.kp ⟨s.size,fun b hb hl=>s.block b (h5.in2 b hb).1 (h5.in2 b hb).2 hl⟩,sp⟩
theorem OwC.ext (h : OwC w lo hi o1 o2 o3 o4 o5 x) (e : Ext w w') : OwC w' lo hi o1 o2 o3 o4 o5 x:=h.same (e.keeps (by simp))
theorem OwC.mod (h : OwC w lo hi o1 o2 o3 o4 o5 x) (m : Mod w w' y) (hx : ∀ g,y = some g → g < lo ∨ hi ≤ g) : OwC w' lo hi o1 o2 o3 o4 o5 x:=h.same (m.keeps hx)
theorem OwC.modR (h : OwC w lo hi o1 o2 o3 o4 o5 x) (m : ModR w w' lo' hi') (hx : hi ≤ lo' ∨ hi' ≤ lo) : OwC w' lo hi o1 o2 o3 o4 o5 x:=h.same (m.keeps hx)
theorem OwC.widen (h : OwC w lo hi o1 o2 o3 o4 o5 x) (a : lo' ≤ lo) (b : hi ≤ hi') : OwC w lo' hi' o1 o2 o3 o4 o5 x:=by
 obtain ⟨f1,f2,f3,h1,h2,h3,h4,h5,sp⟩:=h
 exact ⟨f1,f2,f3,h1.widen a b,h2.widen a b,h3.widen a b,h4.widen a b,h5.widen a b,sp⟩
theorem OwC.setW {P : Program} {t i lo2 hi2 : Nat} {z cs : List Value} {y : Worker} (hT : StT P t (Dat.sz Worker) z) (h : OwC w lo hi o1 o2 o3 o4 o5 x) (hi' : i < x.workers.length) (ho : Own1.O w lo2 hi2 cs y) (hd : hi ≤ lo2) (hl : lo ≤ lo2) (hh : hi ≤ hi2) :
  ∃ w',(storeVar t ⟨X8 o2,Ko o2 + i * Dat.sz Worker,none⟩ (.agg cs.toArray)).run P w = .ok () w' ∧ Mod w w' o2.ownBlock ∧ OwC w' lo hi2 o1 o2 o3 o4 o5 { x with workers:=x.workers.set i y }:=by
 obtain ⟨f1,f2,f3,h1,h2,h3,h4,h5,⟨d1,d2,d3,d4,_⟩,⟨d5,d6,d7,_⟩,sp⟩:=h
 have far : ∀ {f : List Nat},(∀ b ∈ f,lo ≤ b ∧ b < hi) → Dj f (Uo cs):=fun hf b hb hc=>by have:=hf b hb;have:=Own1.inn ho b hc;omega
 obtain ⟨w',f',hr,hm,h2',kq,hin⟩:=h2.set hT hi' ho (far h2.in2) hl hh
 exact ⟨w',hr,hm,f1,f',f3,(h1.kp (kq.kp d1)).widen (Nat.le_refl _) hh,h2',(h3.kp (kq.kp d5.symm)).widen (Nat.le_refl _) hh,(h4.kp (kq.kp d6.symm)).widen (Nat.le_refl _) hh,(h5.kp (kq.kp d7.symm)).widen (Nat.le_refl _) hh,
  ⟨d1.grow hin (far h1.in2),d2,d3,d4,trivial⟩,⟨(d5.symm.grow hin (far h3.in2)).symm,(d6.symm.grow hin (far h4.in2)).symm,(d7.symm.grow hin (far h5.in2)).symm,trivial⟩,sp⟩
theorem Dj.nilR {f : List Nat} : Dj f (K8 (.slice none 0 0)):=fun b _ hc=>by simp [K8,Value.ownBlock] at hc
def OwR (w : World) (lo hi b : Nat) (o1 o2 o3 o4 o5 : Value) (x : Cluster) (ok : Bool) : Prop :=
 ∃ f1 f2 f3,Blk w b [o1,.int .i64 x.graph.workers,.int .i64 x.graph.cap,o2,o3,o4,o5,.bool ok] ∧ lo ≤ b ∧ OwF w lo hi o1 x.graph.nodes f1 ∧ OwF w lo hi o2 x.workers f2 ∧ OwF w lo hi o3 x.links f3 ∧ Own w lo hi 5 o4 (List.flatMap (Enc.enc (α:=Token)) x.tokens) ∧ Own w lo hi 3 o5 (List.flatMap (Enc.enc (α:=News)) x.news) ∧ DjL [f1,f2,f3,K8 o4,K8 o5,[b]]
theorem OwR.of {b : Nat} {ok : Bool} (h : OwC w lo hi o1 o2 o3 o4 o5 x) (hB : Blk w b [o1,.int .i64 x.graph.workers,.int .i64 x.graph.cap,o2,o3,o4,o5,.bool ok]) (hd : b < lo ∨ hi ≤ b) (h1 : lo' ≤ lo) (h2 : lo' ≤ b) (h3 : hi ≤ hi') : OwR w lo' hi' b o1 o2 o3 o4 o5 x ok:=by
 obtain ⟨f1,f2,f3,a1,a2,a3,a4,a5,⟨d1,d2,d3,d4,_⟩,⟨d5,d6,d7,_⟩,⟨d8,d9,_⟩,⟨d10,_⟩,_⟩:=h
 have far : ∀ {f : List Nat},(∀ y ∈ f,lo ≤ y ∧ y < hi) → Dj f [b]:=fun hf y hy hc=>by have:=hf y hy;simp at hc;omega
 exact ⟨f1,f2,f3,hB,h2,a1.widen h1 h3,a2.widen h1 h3,a3.widen h1 h3,a4.widen h1 h3,a5.widen h1 h3,
  ⟨d1,d2,d3,d4,far a1.in2,trivial⟩,⟨d5,d6,d7,far a2.in2,trivial⟩,⟨d8,d9,far a3.in2,trivial⟩,⟨d10,far a4.in2,trivial⟩,⟨far a5.in2,trivial⟩,trivial,trivial⟩
theorem OwC.of (x : Cluster) {a1 b1 a2 b2 a3 b3 a4 b4 a5 b5 : Nat} (h1 : OwS w a1 b1 o1 x.graph.nodes) (h2 : OwS w a2 b2 o2 x.workers) (h3 : OwS w a3 b3 o3 x.links) (h4 : Own w a4 b4 5 o4 (List.flatMap (Enc.enc (α:=Token)) x.tokens)) (h5 : Own w a5 b5 3 o5 (List.flatMap (Enc.enc (α:=News)) x.news))
  (hb : lo ≤ a1 ∧ b1 ≤ hi ∧ lo ≤ a2 ∧ b2 ≤ hi ∧ lo ≤ a3 ∧ b3 ≤ hi ∧ lo ≤ a4 ∧ b4 ≤ hi ∧ lo ≤ a5 ∧ b5 ≤ hi)
  (hd : (b1 ≤ a2 ∨ b2 ≤ a1) ∧ (b1 ≤ a3 ∨ b3 ≤ a1) ∧ (b1 ≤ a4 ∨ b4 ≤ a1) ∧ (b1 ≤ a5 ∨ b5 ≤ a1) ∧ (b2 ≤ a3 ∨ b3 ≤ a2) ∧ (b2 ≤ a4 ∨ b4 ≤ a2) ∧ (b2 ≤ a5 ∨ b5 ≤ a2) ∧ (b3 ≤ a4 ∨ b4 ≤ a3) ∧ (b3 ≤ a5 ∨ b5 ≤ a3) ∧ (b4 ≤ a5 ∨ b5 ≤ a4)) : OwC w lo hi o1 o2 o3 o4 o5 x:=by
 obtain ⟨f1,h1⟩:=h1.owf
 obtain ⟨f2,h2⟩:=h2.owf
 obtain ⟨f3,h3⟩:=h3.owf
 obtain ⟨p1,q1,p2,q2,p3,q3,p4,q4,p5,q5⟩:=hb
 obtain ⟨d1,d2,d3,d4,d5,d6,d7,d8,d9,d10⟩:=hd
 exact ⟨f1,f2,f3,h1.widen p1 q1,h2.widen p2 q2,h3.widen p3 q3,h4.widen p4 q4,h5.widen p5 q5,
  ⟨Dj.apart h1.in2 h2.in2 d1,Dj.apart h1.in2 h3.in2 d2,Dj.apart h1.in2 h4.in2 d3,Dj.apart h1.in2 h5.in2 d4,trivial⟩,⟨Dj.apart h2.in2 h3.in2 d5,Dj.apart h2.in2 h4.in2 d6,Dj.apart h2.in2 h5.in2 d7,trivial⟩,
  ⟨Dj.apart h3.in2 h4.in2 d8,Dj.apart h3.in2 h5.in2 d9,trivial⟩,⟨Dj.apart h4.in2 h5.in2 d10,trivial⟩,trivial,trivial⟩
end
def mkCell (k : Nat) : Cell:=⟨((k : Nat) : Int),((k + 1 : Nat) : Int),((k + 1 + 1 : Nat) : Int),((k + 1 + 1 + 1 : Nat) : Int)⟩
def Xr (a b : Int) : Int:=if a < b then -1 else if b < a then 1 else 0
def szM (m : Nat) (n : Int) : Int:=if n - m < 0 then -1 else n - m
section
variable {α : Type} {xs : List α} {f : α → Nat} {k : Nat}
end
section
variable {α : Type} {xs ys : List α} {k : Nat}
theorem C4 (h : ¬ xs.length = ys.length) : xs ≠ ys:=fun e=>h (by rw [e])
theorem Hb (hp : xs.take k = ys.take k) (h1 : k < xs.length) (h2 : k < ys.length) (h : xs[k] = ys[k]) : xs.take (k + 1) = ys.take (k + 1):=by
 rw [List.take_succ_eq_append_getElem h1,List.take_succ_eq_append_getElem h2,hp,h]
variable [DecidableEq α]
theorem C5 (h1 : k < xs.length) (h2 : k < ys.length) (h : ¬ xs[k] = ys[k]) : Value.bool false = .bool (decide (xs = ys)):=by
 have : xs ≠ ys:=fun e=>h (by subst e;rfl)
 simp [this]
theorem Ti (hp : xs.take k = ys.take k) (hl : xs.length = ys.length) (hk : xs.length ≤ k) : Value.bool true = .bool (decide (xs = ys)):=by
 rw [List.take_of_length_le hk,List.take_of_length_le (by omega)] at hp
 simp [hp]
end
def Uw : List Int → List Int → Int
 | [],[]=>0
 | [],_ :: _=>-1
 | _ :: _,[]=>1
 | x :: xs,y :: ys=>if Xr x y = 0 then Uw xs ys else Xr x y
section
variable {xs ys : List Int} {k : Nat}
theorem Au (hI : Uw (xs.drop k) (ys.drop k) = Uw xs ys) (h1 : k < xs.length) (h2 : k < ys.length) : Uw xs ys = if Xr xs[k] ys[k] = 0 then Uw (xs.drop (k + 1)) (ys.drop (k + 1)) else Xr xs[k] ys[k]:=by
 rw [← hI,List.drop_eq_getElem_cons h1,List.drop_eq_getElem_cons h2,Uw]
theorem cmpL_step (hI : Uw (xs.drop k) (ys.drop k) = Uw xs ys) (h1 : k < xs.length) (h2 : k < ys.length) (h : Xr xs[k] ys[k] = 0) : Uw (xs.drop (k + 1)) (ys.drop (k + 1)) = Uw xs ys:=by
 rw [Au hI h1 h2,if_pos h]
theorem cmpL_1 (hI : Uw (xs.drop k) (ys.drop k) = Uw xs ys) (h1 : k < xs.length) (h2 : ys.length ≤ k) : Value.int .i64 1 = .int .i64 (Uw xs ys):=by
 rw [← hI,List.drop_eq_getElem_cons h1,List.drop_of_length_le h2,Uw]
theorem cmpL_2 (hI : Uw (xs.drop k) (ys.drop k) = Uw xs ys) (h1 : k < xs.length) (h2 : k < ys.length) (h : ¬ Xr xs[k] ys[k] = 0) : Value.int .i64 (Xr xs[k] ys[k]) = .int .i64 (Uw xs ys):=by
 rw [Au hI h1 h2,if_neg h]
theorem cmpL_3 (hI : Uw (xs.drop k) (ys.drop k) = Uw xs ys) (h1 : xs.length ≤ k) (h2 : k < ys.length) : Value.int .i64 (-1) = .int .i64 (Uw xs ys):=by
 rw [← hI,List.drop_eq_getElem_cons h2,List.drop_of_length_le h1,Uw]
theorem cmpL_4 (hI : Uw (xs.drop k) (ys.drop k) = Uw xs ys) (h1 : xs.length ≤ k) (h2 : ys.length ≤ k) : Value.int .i64 0 = .int .i64 (Uw xs ys):=by
 rw [← hI,List.drop_of_length_le h2,List.drop_of_length_le h1,Uw]
end
def Kk : List Int → Int
 | []=>0
 | x :: xs=>if x = 0 then Kk xs else x
section
variable {xs : List Int} {k : Nat}
theorem firstNZ_step (hI : Kk (xs.drop k) = Kk xs) (h1 : k < xs.length) (h : xs[k] = 0) : Kk (xs.drop (k + 1)) = Kk xs:=by
 rw [← hI,List.drop_eq_getElem_cons h1,Kk,if_pos h]
theorem firstNZ_yes (hI : Kk (xs.drop k) = Kk xs) (h1 : k < xs.length) (h : ¬ xs[k] = 0) : xs[k] = Kk xs:=by
 rw [← hI,List.drop_eq_getElem_cons h1,Kk,if_neg h]
theorem firstNZ_no (hI : Kk (xs.drop k) = Kk xs) (h1 : xs.length ≤ k) : Kk xs = 0:=by
 rw [← hI,List.drop_of_length_le h1,Kk]
end
def X4 (x y : Cell) : Int:=Uw [x.epoch,x.op,x.key,x.val] [y.epoch,y.op,y.key,y.val]
theorem C7 (x y : Cell) : X4 x y = Kk [Xr x.epoch y.epoch,Xr x.op y.op,Xr x.key y.key,Xr x.val y.val]:=by simp [X4,Uw,Kk]
theorem cellOrd_a {x y : Cell} {n : Int} (h : n = Kk [Xr x.epoch y.epoch,Xr x.op y.op,Xr x.key y.key,Xr x.val y.val]) : Value.int .i64 n = .int .i64 (X4 x y):=by rw [C7,h]
theorem cellOrd_b {x y : Cell} (h : Kk [Xr x.epoch y.epoch,Xr x.op y.op,Xr x.key y.key,Xr x.val y.val] = 0) : Value.int .i64 0 = .int .i64 (X4 x y):=by rw [C7,h]
section
variable {α : Type} {xs : List α} {x : α} {k : Nat}
theorem has_step (hI : x ∉ xs.take k) (h1 : k < xs.length) (h : ¬ xs[k] = x) : x ∉ xs.take (k + 1):=by
 rw [List.take_succ_eq_append_getElem h1]
 simp only [List.mem_append,List.mem_singleton,not_or]
 exact ⟨hI,fun e=>h e.symm⟩
variable [DecidableEq α]
theorem has_yes (h1 : k < xs.length) (h : xs[k] = x) : Value.bool true = .bool (decide (x ∈ xs)):=by
 have : x ∈ xs:=h ▸ List.getElem_mem h1
 simp [this]
theorem has_no (hI : x ∉ xs.take k) (h1 : xs.length ≤ k) : Value.bool false = .bool (decide (x ∈ xs)):=by
 rw [List.take_of_length_le h1] at hI
 simp [hI]
def idxI (xs : List α) (x : α) : Int:=if x ∈ xs then (xs.idxOf x : Int) else -1
theorem idx_yes (hI : x ∉ xs.take k) (h1 : k < xs.length) (h : xs[k] = x) : Value.int .i64 ((k : Nat) : Int) = .int .i64 (idxI xs x):=by
 have hm : x ∈ xs:=h ▸ List.getElem_mem h1
 have : xs.idxOf x = k:=by
  rw [← List.take_append_drop k xs,List.idxOf_append,if_neg hI,List.drop_eq_getElem_cons h1,h]
  simp;omega
 simp [idxI,hm,this]
theorem idx_no (hI : x ∉ xs.take k) (h1 : xs.length ≤ k) : Value.int .i64 (-1) = .int .i64 (idxI xs x):=by
 rw [List.take_of_length_le h1] at hI
 simp [idxI,hI]
theorem has_idx : Value.bool (decide (0 ≤ idxI xs x)) = .bool (decide (x ∈ xs)):=by
 unfold idxI
 by_cases h : x ∈ xs <;> simp [h]
end
def Kx (x y : Cell) : Bool:=x.op == y.op && x.epoch == y.epoch && x.key == y.key
def Kj (op epoch key : Int) : List Cell → Int → Bool → Int × Bool
 | [],n,s=>(n,s)
 | x :: xs,n,s=>if Kx x ⟨op,epoch,key,0⟩ && (!s || decide (x.val < n)) then Kj op epoch key xs x.val true else Kj op epoch key xs n s
def Yk (xs : List Cell) (op epoch key : Int) : Int × Bool:=Kj op epoch key xs 0 false
section
variable {xs : List Cell} {op epoch key n : Int} {s : Bool} {k : Nat} {r : Int × Bool}
theorem Cb (hI : Kj op epoch key (xs.drop k) n s = r) (h1 : k < xs.length) (h : (Kx xs[k] ⟨op,epoch,key,0⟩ && (!s || decide (xs[k].val < n))) = true) : Kj op epoch key (xs.drop (k + 1)) xs[k].val true = r:=by
 rw [← hI,List.drop_eq_getElem_cons h1,Kj,if_pos h]
theorem C0 (hI : Kj op epoch key (xs.drop k) n s = r) (h1 : k < xs.length) (h : (Kx xs[k] ⟨op,epoch,key,0⟩ && (!s || decide (xs[k].val < n))) = false) : Kj op epoch key (xs.drop (k + 1)) n s = r:=by
 rw [← hI,List.drop_eq_getElem_cons h1,Kj,if_neg (by simp [h])]
end
section
variable {α : Type} {xs : List α} {p : α → Bool} {k : Nat}
theorem Ux (hI : (xs.take k).all p = true) (h1 : k < xs.length) (h : p xs[k] = true) : (xs.take (k + 1)).all p = true:=by
 rw [List.take_succ_eq_append_getElem h1,List.all_append,hI]
 simp [h]
theorem all_no (h1 : k < xs.length) (h : p xs[k] = false) : Value.bool false = .bool (xs.all p):=by
 congr 1;symm;rw [List.all_eq_false]
 exact ⟨_,List.getElem_mem h1,by simp [h]⟩
theorem all_yes (hI : (xs.take k).all p = true) (h1 : xs.length ≤ k) : Value.bool true = .bool (xs.all p):=by
 rw [List.take_of_length_le h1] at hI;rw [hI]
theorem filt_yes [Enc α] (h1 : k < xs.length) (h : p xs[k] = true) : ((xs.take k).filter p).flatMap Enc.enc ++ Enc.enc xs[k] = ((xs.take (k + 1)).filter p).flatMap Enc.enc:=by
 rw [List.take_succ_eq_append_getElem h1,List.filter_append,List.flatMap_append];simp [h]
theorem filt_no [Enc α] (h1 : k < xs.length) (h : p xs[k] = false) : ((xs.take k).filter p).flatMap Enc.enc = ((xs.take (k + 1)).filter p).flatMap Enc.enc:=by
 rw [List.take_succ_eq_append_getElem h1,List.filter_append,List.flatMap_append];simp [h]
theorem C3 [Enc α] (xs : List α) (p : α → Bool) (k : Nat) : (((xs.take k).filter p).flatMap Enc.enc).length ≤ xs.length * Enc.sz α:=by
 rw [Ya]
 refine Nat.mul_le_mul_right _ (Nat.le_trans (List.length_filter_le _ _) ?_)
 simp;omega
def Gg : List α → List (α × α)
 | x :: y :: l=>(x,y) :: Gg (y :: l)
 | _=>[]
theorem Cm : ∀ (xs : List α),(Gg xs).length = xs.length - 1
 | []=>rfl
 | [_]=>rfl
 | x :: y :: l=>by have:=Cm (y :: l);simp only [Gg,List.length_cons] at *;omega
theorem adj_get : ∀ (xs : List α) (j : Nat) (h : j + 1 < xs.length) (h' : j < (Gg xs).length),(Gg xs)[j] = (xs[j],xs[j + 1])
 | x :: y :: l,0,_,_=>rfl
 | x :: y :: l,j + 1,h,h'=>by
  have:=adj_get (y :: l) j (by simpa using h) (by simpa [Gg] using h')
  simpa [Gg] using this
variable {q : α × α → Bool} {j : Nat}
theorem adj_step (hI : ((Gg xs).take j).all q = true) (h1 : j + 1 < xs.length) (h : q (xs[j],xs[j + 1]) = true) : ((Gg xs).take (j + 1)).all q = true:=by
 have h2 : j < (Gg xs).length:=by rw [Cm];omega
 exact Ux hI h2 (by rw [adj_get xs j h1 h2];exact h)
theorem adj_no (h1 : j + 1 < xs.length) (h : q (xs[j],xs[j + 1]) = false) : Value.bool false = .bool ((Gg xs).all q):=by
 have h2 : j < (Gg xs).length:=by rw [Cm];omega
 exact all_no h2 (by rw [adj_get xs j h1 h2];exact h)
theorem adj_yes (hI : ((Gg xs).take j).all q = true) (h1 : xs.length ≤ j + 1) : Value.bool true = .bool ((Gg xs).all q):=all_yes hI (by rw [Cm];omega)
end
def nwP (a : List Cell) (x : Cell) : Bool:=!(!(Yk a x.op x.epoch x.key).2 || decide (x.val < (Yk a x.op x.epoch x.key).1))
def isOf (op epoch : Int) (x : Cell) : Bool:=x.op == op && x.epoch == epoch
def Xm (q : Cell × Cell) : Bool:=!decide (0 ≤ X4 q.1 q.2)
def Y0 (n lo hi : Int) : Bool:=decide (lo ≤ n) && decide (n ≤ hi)
def Vp (g : Graph) (a b : Int) : Int:=if a < 0 ∨ b < 0 ∨ g.workers ≤ a ∨ g.workers ≤ b then -1 else IntKind.i64.wrap (IntKind.i64.wrap (a * g.workers) + b)
section
variable {x y : Graph} {k : Nat}
end
theorem kx {p q : Bool} (h : (!p || !q) = true) : (p && q) = false:=by cases p <;> cases q <;> simp_all
theorem ky {p q : Bool} (h : (!p || !q) = false) : (p && q) = true:=by cases p <;> cases q <;> simp_all
theorem kx0 {w p q : Bool} (h : (!p || !q) = true) : ((w && p) && q) = false:=by cases w <;> cases p <;> cases q <;> simp_all
theorem ky0 {w p q : Bool} (h : (!p || !q) = false) (hw : w = true) : ((w && p) && q) = true:=by cases w <;> cases p <;> cases q <;> simp_all
def Uj (x : Node) : Bool :=
 if x.kind = 2 then Y0 x.a 0 999 && x.b == 0 else if x.kind = 3 then Y0 x.a 1 10 && Y0 x.b 0 (IntKind.i64.wrap (x.a - 1)) else if x.kind = 4 then Y0 x.a 0 99 && x.b == 0
 else Y0 x.kind 1 8 && (x.a == 0) && (x.b == 0)
def Cw (x : Node) : Bool:=((decide (2 < ((x.outs.length : Nat) : Int))) || ((x.kind == 8) && (decide (0 < ((x.outs.length : Nat) : Int))))) || ((((x.outs.length : Nat) : Int) == 2) && ((List.getD x.outs 0 default) == (List.getD x.outs 1 default)))
def Y9 (x : Node) : Bool:=Uj x && !Cw x && x.outs.all (Y0 · 0 7)
section
variable {x : Node} {k : Nat}
theorem Gh (h : Uj x = false) : Value.bool false = .bool (Y9 x):=by simp [Y9,h]
theorem node_t (h : Cw x = true) : Value.bool false = .bool (Y9 x):=by simp [Y9,h]
theorem node_l {h1 : k < x.outs.length} (h : (!(Y0 x.outs[k] 0 7)) = true) : Value.bool false = .bool (Y9 x):=by
 have : x.outs.all (Y0 · 0 7) = false:=by
  rw [List.all_eq_false];exact ⟨_,List.getElem_mem h1,by simpa using h⟩
 simp [Y9,this]
theorem node_y (hk : Uj x = true) (ht : Cw x = false) (hI : (x.outs.take k).all (Y0 · 0 7) = true) (h1 : x.outs.length ≤ k) : Value.bool true = .bool (Y9 x):=by
 rw [List.take_of_length_le h1] at hI
 simp [Y9,hk,ht,hI]
theorem node_2 (h : (x.kind == 2) = true) : Uj x = (Y0 x.a 0 999 && x.b == 0):=by simp at h;simp [Uj,h]
theorem node_3 (h : (x.kind == 3) = true) : Uj x = (Y0 x.a 1 10 && Y0 x.b 0 (IntKind.i64.wrap (x.a - 1))):=by simp at h;simp [Uj,h]
theorem node_4 (h : (x.kind == 4) = true) : Uj x = (Y0 x.a 0 99 && x.b == 0):=by simp at h;simp [Uj,h]
theorem Vt (h2 : (x.kind == 2) = false) (h3 : (x.kind == 3) = false) (h4 : (x.kind == 4) = false) : Uj x = (Y0 x.kind 1 8 && (x.a == 0) && (x.b == 0)):=by simp at h2 h3 h4;simp [Uj,h2,h3,h4]
theorem Vo {n : Int} (h : n = 1 ∨ n = 2 ∨ n = 3 ∨ n = 4 ∨ n = 5 ∨ n = 6 ∨ n = 7 ∨ n = 8) : Y0 n 1 8 = true:=by
 rcases h with h | h | h | h | h | h | h | h <;> subst h <;> decide
theorem win_not {n : Int} (h : ¬ (n = 1 ∨ n = 2 ∨ n = 3 ∨ n = 4 ∨ n = 5 ∨ n = 6 ∨ n = 7 ∨ n = 8)) : Y0 n 1 8 = false:=by
 simp only [Y0,Bool.and_eq_false_iff,decide_eq_false_iff_not];omega
def nodeS (x : Node) (p q : Bool) : Bool:=(((!(Y0 x.kind 1 8) || !p) || !q) || (decide (2 < ((x.outs.length : Nat) : Int)))) || ((x.kind == 8) && (decide (0 < ((x.outs.length : Nat) : Int))))
theorem node_s {p q : Bool} (hk : Uj x = (Y0 x.kind 1 8 && p && q)) (h : nodeS x p q = true) : Value.bool false = .bool (Y9 x):=by
 simp only [nodeS] at h
 cases hkk : Uj x with
 | false=>exact Gh hkk
 | true =>
  rw [hkk] at hk
  have hk:=hk.symm
  simp only [Bool.and_eq_true] at hk
  obtain ⟨⟨h1,h2⟩,h3⟩:=hk
  simp only [h1,h2,h3,Bool.not_true,Bool.false_or] at h
  exact node_t (by simp only [Cw,h,Bool.true_or])
theorem node_p {p q : Bool} (h : nodeS x p q = false) (hk : Uj x = (Y0 x.kind 1 8 && p && q)) : Uj x = true ∧ ((decide (2 < ((x.outs.length : Nat) : Int))) || ((x.kind == 8) && (decide (0 < ((x.outs.length : Nat) : Int))))) = false:=by
 simp only [nodeS,Bool.or_eq_false_iff] at h
 obtain ⟨⟨⟨⟨h1,h2⟩,h3⟩,h4⟩,h5⟩:=h
 simp only [Bool.not_eq_false'] at h1 h2 h3
 simp only [hk,h1,h2,h3,h4,h5];simp
theorem node_d {h1 : k < x.outs.length} (h : ((!(Y0 x.outs[k] 0 7)) || ((decide (0 < ((k : Nat) : Int))) && ((List.getD x.outs 0 default) == (List.getD x.outs 1 default)))) = true) (ht : ((decide (2 < ((x.outs.length : Nat) : Int))) || ((x.kind == 8) && (decide (0 < ((x.outs.length : Nat) : Int))))) = false) : Value.bool false = .bool (Y9 x):=by
 rcases Bool.or_eq_true _ _ ▸ h with h | h
 ·exact node_l h
 ·simp only [Bool.and_eq_true,decide_eq_true_eq] at h
  have ht2:=(Bool.or_eq_false_iff.1 ht).1
  simp only [decide_eq_false_iff_not] at ht2
  refine node_t ?_
  have : ((x.outs.length : Nat) : Int) = 2:=by omega
  simp only [Cw,this,h.2];simp
theorem nodeL {h1 : k < x.outs.length} (h : ((!(Y0 x.outs[k] 0 7)) || ((decide (0 < ((k : Nat) : Int))) && ((List.getD x.outs 0 default) == (List.getD x.outs 1 default)))) = false) : Y0 x.outs[k] 0 7 = true:=by
 have:=(Bool.or_eq_false_iff.1 h).1
 simpa using this
theorem nodeJ {h1 : k < x.outs.length} (h : ((!(Y0 x.outs[k] 0 7)) || ((decide (0 < ((k : Nat) : Int))) && ((List.getD x.outs 0 default) == (List.getD x.outs 1 default)))) = false) : 1 < k + 1 → ((List.getD x.outs 0 default) == (List.getD x.outs 1 default)) = false:=fun hk=>by
 have:=(Bool.or_eq_false_iff.1 h).2
 have hd : decide (0 < ((k : Nat) : Int)) = true:=decide_eq_true (by omega)
 rwa [hd,Bool.true_and] at this
theorem node_z {p q : Bool} (hS : nodeS x p q = false) (hk : Uj x = (Y0 x.kind 1 8 && p && q)) (hI : (x.outs.take k).all (Y0 · 0 7) = true) (hJ : 1 < k → ((List.getD x.outs 0 default) == (List.getD x.outs 1 default)) = false) (h1 : x.outs.length ≤ k) : Value.bool true = .bool (Y9 x):=by
 obtain ⟨hk,ht⟩:=node_p hS hk
 refine node_y hk ?_ hI h1
 simp only [Cw,ht,Bool.false_or,Bool.and_eq_false_iff]
 by_cases h2 : ((x.outs.length : Nat) : Int) = 2
 ·exact .inr (hJ (by omega))
 ·exact .inl (by simpa using h2)
end
def Tz (g : Graph) (to : Int) : Int:=(List.getD g.nodes to.toNat default).kind
def K9 (g : Graph) (i : Nat) (x : Node) (to : Int) : Bool :=
 decide (((g.nodes.length : Nat) : Int) ≤ to) || (((x.kind == 7) && ((decide (((i : Nat) : Int) < to)) || ((Tz g to != 5) && (Tz g to != 6)))) || ((x.kind != 7) && (decide (to ≤ ((i : Nat) : Int)))))
def atOk (_ : Graph) (i : Nat) (x : Node) : Bool:=!((!(Y9 x)) || (!((x.kind == 1) == (((i : Nat) : Int) == 0))))
def Kf (g : Graph) (i : Nat) (x : Node) : Bool:=atOk g i x && x.outs.all (fun to=>!K9 g i x to)
def Ci (g : Graph) : Bool:=((!(Y0 ((g.nodes.length : Nat) : Int) 1 8)) || (!(Y0 g.workers 1 4))) || (!(Y0 g.cap 1 4))
def Yf (g : Graph) : Bool:=!Ci g && (List.range g.nodes.length).all (fun i=>Kf g i (List.getD g.nodes i default))
section
variable {g : Graph} {i k : Nat}
theorem Ka {α : Type} [Inhabited α] {xs : List α} {i : Nat} (h : i < xs.length) : List.getD xs i default = xs[i]:=by simp [List.getD,h]
theorem graph_h (h : Ci g = true) : Value.bool false = .bool (Yf g):=by simp [Yf,h]
theorem graph_n {h1 : i < g.nodes.length} (h : Kf g i g.nodes[i] = false) : Value.bool false = .bool (Yf g):=by
 have : (List.range g.nodes.length).all (fun i=>Kf g i (List.getD g.nodes i default)) = false:=by
  rw [List.all_eq_false];exact ⟨i,by simpa using h1,by rw [Ka h1,h];simp⟩
 simp only [Yf,this,Bool.and_false]
theorem graph_a {h1 : i < g.nodes.length} (h : ((!(Y9 g.nodes[i])) || (!((g.nodes[i].kind == 1) == (((i : Nat) : Int) == 0)))) = true) : Value.bool false = .bool (Yf g):=graph_n (h1:=h1) (by
 simp only [Kf,atOk,h];simp)
theorem Cj {h1 : i < g.nodes.length} {h2 : k < g.nodes[i].outs.length} (h : K9 g i g.nodes[i] (g.nodes[i].outs[k]) = true) : Value.bool false = .bool (Yf g):=graph_n (h1:=h1) (by
 have : g.nodes[i].outs.all (fun to=>!K9 g i g.nodes[i] to) = false:=by
  rw [List.all_eq_false];exact ⟨_,List.getElem_mem h2,by simp [h]⟩
 simp only [Kf,this,Bool.and_false])
theorem graph_s {h1 : i < g.nodes.length} (ha : ((!(Y9 g.nodes[i])) || (!((g.nodes[i].kind == 1) == (((i : Nat) : Int) == 0)))) = false) (hI : (g.nodes[i].outs.take k).all (fun to=>!K9 g i g.nodes[i] to) = true) (hk : g.nodes[i].outs.length ≤ k)
  (hp : ∀ j,j < i → Kf g j (List.getD g.nodes j default) = true) : ∀ j,j < i + 1 → Kf g j (List.getD g.nodes j default) = true:=fun j hj=>by
 by_cases e : j = i
 ·subst e
  rw [List.take_of_length_le hk] at hI
  rw [Ka h1];simp only [Kf,atOk,ha,hI];simp
 ·exact hp j (by omega)
theorem graph_y (hh : Ci g = false) (hp : ∀ j,j < i → Kf g j (List.getD g.nodes j default) = true) (hi : g.nodes.length ≤ i) : Value.bool true = .bool (Yf g):=by
 have : (List.range g.nodes.length).all (fun i=>Kf g i (List.getD g.nodes i default)) = true:=by
  rw [List.all_eq_true];intro j hj;exact hp j (by have:=List.mem_range.1 hj;omega)
 simp only [Yf,this,hh];simp
theorem edge_a {x : Node} {to : Int} (h : decide (((g.nodes.length : Nat) : Int) ≤ to) = true) : K9 g i x to = true:=by simp only [K9,h,Bool.true_or]
theorem edge_b {x : Node} {to K : Int} (hK : K = Tz g to) (h : (((x.kind == 7) && ((decide (((i : Nat) : Int) < to)) || ((K != 5) && (K != 6)))) || ((x.kind != 7) && (decide (to ≤ ((i : Nat) : Int))))) = true) : K9 g i x to = true:=by
 subst hK;simp only [K9,h,Bool.or_true]
theorem edge_n {x : Node} {to K : Int} (hK : K = Tz g to) (h1 : decide (((g.nodes.length : Nat) : Int) ≤ to) = false) (h : (((x.kind == 7) && ((decide (((i : Nat) : Int) < to)) || ((K != 5) && (K != 6)))) || ((x.kind != 7) && (decide (to ≤ ((i : Nat) : Int))))) = false) : (!K9 g i x to) = true:=by
 subst hK;simp only [K9,h,h1,Bool.or_false,Bool.not_false]
theorem edge_s1 {x : Node} {to : Int} (h : ((decide (((g.nodes.length : Nat) : Int) ≤ to)) || ((x.kind != 7) && (decide (to ≤ ((i : Nat) : Int))))) = true) : K9 g i x to = true:=by
 rcases Bool.or_eq_true _ _ ▸ h with h | h
 ·exact edge_a h
 ·simp only [K9,h,Bool.or_true]
theorem edge_s2 {x : Node} {to K : Int} (hK : K = Tz g to) (h : ((x.kind == 7) && ((decide (((i : Nat) : Int) < to)) || ((K != 5) && (K != 6)))) = true) : K9 g i x to = true:=edge_b hK (by rw [h];rfl)
theorem edge_sn {x : Node} {to K : Int} (hK : K = Tz g to) (h1 : ((decide (((g.nodes.length : Nat) : Int) ≤ to)) || ((x.kind != 7) && (decide (to ≤ ((i : Nat) : Int))))) = false) (h : ((x.kind == 7) && ((decide (((i : Nat) : Int) < to)) || ((K != 5) && (K != 6)))) = false) : (!K9 g i x to) = true :=
 edge_n hK (Bool.or_eq_false_iff.1 h1).1 (by rw [h,(Bool.or_eq_false_iff.1 h1).2];rfl)
theorem edge_lt {n to : Int} {q : Bool} (h : ((decide (n ≤ to)) || q) = false) : to < n:=by
 have:=of_decide_eq_false (Bool.or_eq_false_iff.1 h).1
 omega
theorem C1 {h1 : i < g.nodes.length} {h2 : k < g.nodes[i].outs.length} (ha : ((!(Y9 g.nodes[i])) || (!((g.nodes[i].kind == 1) == (((i : Nat) : Int) == 0)))) = false) : 0 ≤ g.nodes[i].outs[k]:=by
 have hn : Y9 g.nodes[i] = true:=by simpa using (Bool.or_eq_false_iff.1 ha).1
 simp only [Y9,Bool.and_eq_true,List.all_eq_true] at hn
 have:=hn.2 _ (List.getElem_mem h2)
 simp only [Y0,Bool.and_eq_true,decide_eq_true_eq] at this
 exact this.1
end
def ofE (e : Int) (r : Record) : Bool:=r.stamp.epoch == e
def workAt (x : Worker) (e : Int) : Int:=IntKind.i64.wrap (((x.queue.filter (ofE e)).length : Int) + ((x.staged.filter (ofE e)).length : Int))
def openAt (x : Worker) (e : Int) : Bool:=x.inputs.any fun r=>decide (r.stamp.epoch ≤ e)
def Ky (x : Worker) : Bool:=(x.queue.length == 0) && (x.staged.length == 0) && (x.inputs.length == 0)
def isDone (x : Worker) (e : Int) : Bool:=x.dones.any fun d=>d.epoch == e
def mkInt (k : Nat) : Int:=((k : Nat) : Int)
def mkBool (k : Nat) : Bool:=Int.tmod ((k : Nat) : Int) 3 == 0
def Tf (k : Nat) : Record:=⟨((k : Nat) : Int),⟨((k + 1 : Nat) : Int),((k + 1 + 1 : Nat) : Int)⟩,((k + 1 + 1 + 1 : Nat) : Int),((k + 1 + 1 + 1 + 1 : Nat) : Int)⟩
def mkDone (k : Nat) : Done:=⟨((k : Nat) : Int),Int.tmod ((k + 1 : Nat) : Int) 3 == 0⟩
def mkToken (k : Nat) : Token:=⟨Int.tmod ((k : Nat) : Int) 3 == 0,((k + 1 : Nat) : Int),((k + 1 + 1 : Nat) : Int),Int.tmod ((k + 1 + 1 + 1 : Nat) : Int) 3 == 0,Int.tmod ((k + 1 + 1 + 1 + 1 : Nat) : Int) 3 == 0⟩
def mkNews (k : Nat) : News:=⟨((k : Nat) : Int),((k + 1 : Nat) : Int),Int.tmod ((k + 1 + 1 : Nat) : Int) 3 == 0⟩
def numW (k : Nat) (x : Worker) : Nat:=k + 5 * x.queue.length + 5 * x.staged.length + 5 * x.inputs.length + 4 * x.cells.length + 1 * x.sums.length + 1 * x.black.length + 1 * x.caps.length + 2 * x.dones.length
def markW (k : Nat) (x : Worker) : Worker :=
 ⟨mkL 5 Tf k x.queue.length,mkL 5 Tf (k + 5 * x.queue.length) x.staged.length,mkL 5 Tf (k + 5 * x.queue.length + 5 * x.staged.length) x.inputs.length,
  mkL 4 mkCell (k + 5 * x.queue.length + 5 * x.staged.length + 5 * x.inputs.length) x.cells.length,mkL 1 mkInt (k + 5 * x.queue.length + 5 * x.staged.length + 5 * x.inputs.length + 4 * x.cells.length) x.sums.length,
  mkL 1 mkBool (k + 5 * x.queue.length + 5 * x.staged.length + 5 * x.inputs.length + 4 * x.cells.length + 1 * x.sums.length) x.black.length,
  mkL 1 mkBool (k + 5 * x.queue.length + 5 * x.staged.length + 5 * x.inputs.length + 4 * x.cells.length + 1 * x.sums.length + 1 * x.black.length) x.caps.length,
  mkL 2 mkDone (k + 5 * x.queue.length + 5 * x.staged.length + 5 * x.inputs.length + 4 * x.cells.length + 1 * x.sums.length + 1 * x.black.length + 1 * x.caps.length) x.dones.length⟩
theorem C9 {α : Type} {xs : List α} {p : α → Bool} {k : Nat} (hI : (xs.take k).any p = false) (h1 : k < xs.length) (h : p xs[k] = false) : (xs.take (k + 1)).any p = false:=by
 rw [List.take_succ_eq_append_getElem h1,List.any_append,hI];simp [h]
def Gf {α : Type} (xs : List α) (p : α → Bool) : Int:=if xs.any p then ((xs.findIdx p : Nat) : Int) else -1
theorem find_yes {α : Type} {xs : List α} {p : α → Bool} {k : Nat} (hI : (xs.take k).any p = false) (h1 : k < xs.length) (h : p xs[k] = true) : Value.int .i64 ((k : Nat) : Int) = .int .i64 (Gf xs p):=by
 have ha : xs.any p = true:=by rw [List.any_eq_true];exact ⟨_,List.getElem_mem h1,h⟩
 have : xs.findIdx p = k:=by
  rw [List.findIdx_eq h1]
  refine ⟨h,fun j hj=>?_⟩
  rw [List.any_eq_false] at hI
  have:=hI xs[j] (by rw [List.mem_take_iff_getElem];exact ⟨j,by omega,rfl⟩)
  simpa using this
 simp [Gf,ha,this]
theorem find_no {α : Type} {xs : List α} {p : α → Bool} {k : Nat} (hI : (xs.take k).any p = false) (h1 : xs.length ≤ k) : Value.int .i64 (-1) = .int .i64 (Gf xs p):=by
 rw [List.take_of_length_le h1] at hI;simp [Gf,hI]
theorem any_find {α : Type} {xs : List α} {p : α → Bool} : Value.bool (decide (0 ≤ Gf xs p)) = .bool (xs.any p):=by
 unfold Gf
 cases h : xs.any p <;> simp
def Xq (s : Stamp) : Bool:=Y0 s.epoch 0 3 && Y0 s.turn 0 6
def Yn (r : Record) : Bool:=(Y0 r.op 0 7 && Xq r.stamp) && (Y0 r.key 0 99 && Y0 r.val 0 999)
def Xd (g : Graph) (op : Int) : Bool:=Y0 op 0 (((g.nodes.length : Nat) : Int) - 1)
def X6 (g : Graph) (r : Record) : Bool:=Yn r && Xd g r.op
def Yr (s : Stamp) : Stamp × Bool:=if (!(Xq s) || (s.turn == 6)) = true then (s,false) else (⟨s.epoch,s.turn + 1⟩,true)
theorem Hh {n lo hi : Int} : Y0 n lo hi = true ↔ lo ≤ n ∧ n ≤ hi:=by simp [Y0]
theorem win_hi {s : Stamp} (h : Xq s = true) : 0 ≤ s.turn ∧ s.turn ≤ 6:=by
 simp only [Xq,Bool.and_eq_true,Hh] at h;omega
theorem nt_ge {s : Stamp} (h : (!(Xq s) || decide (6 ≤ s.turn)) = true) : (!(Xq s) || (s.turn == 6)) = true:=by
 cases hs : Xq s with
 | false=>rfl
 | true =>
  have:=win_hi hs
  simp [hs] at h ⊢;omega
theorem nt_lt {s : Stamp} (h : (!(Xq s) || decide (6 ≤ s.turn)) = false) : (!(Xq s) || (s.turn == 6)) = false:=by
 cases hs : Xq s with
 | false=>simp [hs] at h
 | true=>simp [hs] at h ⊢;omega
theorem op_yes {g : Graph} {r : Record} (h : (!(Yn r) || decide (((g.nodes.length : Nat) : Int) ≤ r.op)) = false) : X6 g r = true:=by
 simp only [Bool.or_eq_false_iff,Bool.not_eq_false',decide_eq_false_iff_not] at h
 have h1:=h.1
 simp only [Yn,Bool.and_eq_true,Hh] at h1
 simp only [X6,h.1,Xd,Bool.true_and,Hh];omega
theorem op_no {g : Graph} {r : Record} (h : (!(Yn r) || decide (((g.nodes.length : Nat) : Int) ≤ r.op)) = true) : X6 g r = false:=by
 cases h1 : Yn r with
 | false=>simp [X6,h1]
 | true =>
  simp [h1] at h
  simp only [X6,h1,Xd,Bool.true_and,Y0,Bool.and_eq_false_iff,decide_eq_false_iff_not];omega
theorem bf {a : Bool} (h : a = true → False) : Value.bool false = .bool a:=by cases a <;> simp_all
theorem bt {a : Bool} (h : a = true) : Value.bool true = .bool a:=by rw [h]
def G4 (n : Nat) (P : Nat → Bool) : Bool:=(List.range n).all P
theorem allR_s {n : Nat} {P : Nat → Bool} (h : G4 n P = true) (hp : P n = true) : G4 (n + 1) P = true:=by
 simp only [G4,List.range_succ,List.all_append] at *
 simp [h,hp]
theorem Gp {n j : Nat} {P : Nat → Bool} (h : G4 n P = true) (hj : j < n) : P j = true:=List.all_eq_true.1 h j (List.mem_range.2 hj)
theorem Cl {n m : Nat} {P : Nat → Bool} (h : G4 n P = true) (hm : m ≤ n) : G4 m P = true:=List.all_eq_true.2 fun j hj=>Gp h (by have:=List.mem_range.1 hj;omega)
theorem all_end {α : Type} {xs : List α} {p : α → Bool} {k : Nat} (hI : (xs.take k).all p = true) (h1 : xs.length ≤ k) : xs.all p = true:=by rwa [List.take_of_length_le h1] at hI
def inAt (xs : List Record) (j : Nat) : Bool :=
 !((((List.getD xs j default).op != 0) || ((List.getD xs j default).stamp.turn != 0)) || (decide (0 < ((j : Nat) : Int)) && decide ((List.getD xs j default).stamp.epoch < (List.getD xs (j - 1) default).stamp.epoch)))
theorem Ch {xs : List Record} {j : Nat} (h : j < xs.length) : inAt xs j = !(((xs[j].op != 0) || (xs[j].stamp.turn != 0)) || (decide (0 < ((j : Nat) : Int)) && decide (xs[j].stamp.epoch < (List.getD xs (j - 1) default).stamp.epoch))):=by
 simp only [inAt,Ka h]
def Vg (xs : List Done) (j : Nat) : Bool:=!(!(Y0 (List.getD xs j default).epoch 0 3) || (xs.take j).any (fun d=>d.epoch == (List.getD xs j default).epoch))
theorem Vq {xs : List Done} {j : Nat} (h : j < xs.length) : Vg xs j = !(!(Y0 xs[j].epoch 0 3) || (xs.take j).any (fun d=>d.epoch == xs[j].epoch)):=by
 simp only [Vg,Ka h]
def Yc (g : Graph) (x : Worker) : Bool :=
 x.queue.all (X6 g) && x.staged.all (X6 g) && x.inputs.all (X6 g) && (Gg x.cells).all Xm && G4 x.inputs.length (fun j=>inAt x.inputs j) &&
  (((x.sums.length : Nat) : Int) == 4) && (((x.black.length : Nat) : Int) == 4) && (((x.caps.length : Nat) : Int) == 4) && x.sums.all (Y0 · (-1000000) 1000000) && G4 x.dones.length (fun j=>Vg x.dones j)
theorem wk_yes1 {g : Graph} {x : Worker} (h1 : (((!(x.queue.all (X6 g)) || !(x.staged.all (X6 g))) || !(x.inputs.all (X6 g))) || !((Gg x.cells).all Xm)) = false) (h2 : G4 x.inputs.length (fun j=>inAt x.inputs j) = true)
  (h3 : (((((x.sums.length : Nat) : Int) != 4) || (((x.black.length : Nat) : Int) != 4)) || (((x.caps.length : Nat) : Int) != 4)) = false) (h4 : x.sums.all (Y0 · (-1000000) 1000000) = true) (h5 : G4 x.dones.length (fun j=>Vg x.dones j) = true) :
  Value.bool true = .bool (Yc g x):=by
 simp only [Bool.or_eq_false_iff,Bool.not_eq_false',bne_eq_false_iff_eq] at h1 h3
 obtain ⟨⟨⟨a1,a2⟩,a3⟩,a4⟩:=h1
 obtain ⟨⟨b1,b2⟩,b3⟩:=h3
 exact bt (by simp only [Yc,a1,a2,a3,a4,h2,b1,b2,b3,h4,h5];rfl)
section
variable {x y : Worker}
end
theorem wk_len {g : Graph} {x : Worker} (h : ((((((!(x.queue.all (X6 g)) || !(x.staged.all (X6 g))) || !(x.inputs.all (X6 g))) || !((Gg x.cells).all Xm)) || (((x.sums.length : Nat) : Int) != 4)) || (((x.black.length : Nat) : Int) != 4)) || (((x.caps.length : Nat) : Int) != 4)) = false) : x.sums.length = 4:=by
 simp at h;omega
theorem wk_yes2 {g : Graph} {x : Worker} (h : ((((((!(x.queue.all (X6 g)) || !(x.staged.all (X6 g))) || !(x.inputs.all (X6 g))) || !((Gg x.cells).all Xm)) || (((x.sums.length : Nat) : Int) != 4)) || (((x.black.length : Nat) : Int) != 4)) || (((x.caps.length : Nat) : Int) != 4)) = false) (h2 : G4 x.inputs.length (fun j=>inAt x.inputs j) = true)
  (h4 : x.sums.all (Y0 · (-1000000) 1000000) = true) (h5 : G4 x.dones.length (fun j=>Vg x.dones j) = true) : Value.bool true = .bool (Yc g x):=by
 simp only [Bool.or_eq_false_iff,Bool.not_eq_false',bne_eq_false_iff_eq] at h
 obtain ⟨⟨⟨⟨⟨⟨a1,a2⟩,a3⟩,a4⟩,b1⟩,b2⟩,b3⟩:=h
 exact bt (by simp only [Yc,a1,a2,a3,a4,h2,b1,b2,b3,h4,h5];rfl)
section
variable {xs : List Done} {i j : Nat}
theorem done_s {h1 : i < xs.length} (hw : (!(Y0 xs[i].epoch 0 3)) = false) (hJ : (xs.take j).any (fun d=>d.epoch == xs[i].epoch) = false) (hj : i ≤ j) : Vg xs i = true:=by
 rw [Vq h1,hw]
 have : (xs.take i).any (fun d=>d.epoch == xs[i].epoch) = false:=by
  rw [List.any_eq_false] at *
  intro d hd
  refine hJ d ?_
  rw [List.mem_take_iff_getElem] at *
  obtain ⟨q,hq,rfl⟩:=hd
  exact ⟨q,by omega,rfl⟩
 simp [this]
theorem done_n {h1 : i < xs.length} {h2 : j < xs.length} (h : Vg xs i = true) (hj : j < i) (he : (xs[j].epoch == xs[i].epoch) = true) : False:=by
 rw [Vq h1] at h
 have : (xs.take i).any (fun d=>d.epoch == xs[i].epoch) = true:=by
  rw [List.any_eq_true]
  exact ⟨xs[j],by rw [List.mem_take_iff_getElem];exact ⟨j,by omega,rfl⟩,he⟩
 simp [this] at h
end
theorem Ue {g : Graph} {op : Int} (h : Xd g op = true) : 0 ≤ op ∧ op < ((g.nodes.length : Nat) : Int) ∧ Int.toNat op < g.nodes.length:=by
 simp only [Xd,Hh] at h;omega
theorem isN_w {n : Nat} (h : n ≤ maxLen) : IntKind.i64.wrap (((n : Nat) : Int) - 1) = ((n : Nat) : Int) - 1:=by
 unfold maxLen at h
 rw [Xx (by omega) (by omega)]
def Qn (g : Graph) (op : Int) : Node × Bool:=if Xd g op = true then (List.getD g.nodes (Int.toNat op) default,true) else (⟨0,0,0,[]⟩,false)
theorem nodeOf_no {g : Graph} {op : Int} (h : Xd g op = false) : Qn g op = (⟨0,0,0,[]⟩,false):=by simp [Qn,h]
theorem Cx {g : Graph} {op : Int} (h : 0 ≤ op ∧ op < ((g.nodes.length : Nat) : Int) ∧ Int.toNat op < g.nodes.length) : Qn g op = (g.nodes[Int.toNat op]'h.2.2,true):=by
 have : Xd g op = true:=by simp only [Xd,Hh];omega
 simp [Qn,this,List.getD,h.2.2]
theorem Cy {g : Graph} {op : Int} : (Qn g op).2 = Xd g op:=by
 unfold Qn;cases h : Xd g op <;> simp
theorem mem_cnt {α : Type} {f : α → Nat} : ∀ {xs : List α} {x : α},x ∈ xs → f x ≤ (xs.map f).sum
 | y :: ys,x,h=>by
  rcases List.mem_cons.1 h with rfl | h
  ·simp
  ·have:=mem_cnt (f:=f) h;simp;omega
theorem outs_le {g : Graph} {x : Node} (h : Uq g ≤ 1048576) (hx : x ∈ g.nodes) : x.outs.length ≤ 1048576:=by
 have:=mem_cnt (f:=Tk) hx
 simp only [Uq,cntL] at h
 simp only [Tk] at this;omega
theorem or3 {a b c : Bool} (h : ((!a || !b) || !c) = false) : a = true ∧ b = true ∧ c = true:=by cases a <;> cases b <;> cases c <;> simp_all
def Uz (g : Graph) (r : Record) : Bool:=((((((Qn g r.op).2 && Yf g) && Yn r) && ((Qn g r.op).1.kind == 7)) && decide (0 < (((Qn g r.op).1.outs.length : Nat) : Int))) && !(Yr r.stamp).2)
theorem capped_no {g : Graph} {r : Record} (h : Uz g r = true) (hc : ((!(Yf g) || !(Yn r)) || !(Xd g r.op)) = true) : False:=by
 simp only [Uz,Bool.and_eq_true,Cy] at h
 obtain ⟨⟨⟨⟨⟨h1,h2⟩,h3⟩,_⟩,_⟩,_⟩:=h
 simp [h1,h2,h3] at hc
theorem capped_yes {g : Graph} {r : Record} (h : Yf g = true ∧ Yn r = true ∧ Xd g r.op = true) (h1 : Int.toNat r.op < g.nodes.length) :
  Uz g r = (((g.nodes[Int.toNat r.op].kind == 7) && decide (0 < ((g.nodes[Int.toNat r.op].outs.length : Nat) : Int))) && !(Yr r.stamp).2):=by
 have hn:=Cx (Ue h.2.2)
 simp only [Uz,hn,h.1,h.2.1];rfl
def addOut (f : List Int) (k : Int) : List Int:=if k ∈ f then f else f ++ [k]
def addOuts (f outs : List Int) : List Int:=outs.foldl addOut f
def reachGo (g : Graph) : Nat → Nat → List Int → List Int
 | 0,_,f=>f
 | n + 1,i,f=>if i < f.length then reachGo g n (i + 1) (addOuts f (List.getD g.nodes (Int.toNat (List.getD f i default)) default).outs) else f
def reachL (g : Graph) (a : Int) : List Int:=reachGo g 10 0 (List.getD g.nodes (Int.toNat a) default).outs
def reaches (g : Graph) (a b : Int) : Bool:=(Yf g && Xd g a) && decide (b ∈ reachL g a)
def GoodF (g : Graph) (f0 f : List Int) : Prop:=(∃ nw,f = f0 ++ nw ∧ nw.Nodup) ∧ ∀ x ∈ f,0 ≤ x ∧ x < ((g.nodes.length : Nat) : Int)
section
variable {g : Graph} {f0 f f2 outs : List Int} {i j n : Nat} {a b k : Int}
theorem gok_len (h : Yf g = true) : 1 ≤ g.nodes.length ∧ g.nodes.length ≤ 8:=by
 simp only [Yf,Ci,Bool.and_eq_true,Bool.not_eq_true',Bool.or_eq_false_iff,Bool.not_eq_false'] at h
 have:=Hh.1 h.1.1.1;omega
theorem gok_at (h : Yf g = true) (hi : i < g.nodes.length) : Kf g i g.nodes[i] = true:=by
 simp only [Yf,Bool.and_eq_true] at h
 have:=List.all_eq_true.1 h.2 i (List.mem_range.2 hi)
 rwa [Ka hi] at this
theorem gok_outs (h : Yf g = true) (hi : i < g.nodes.length) : ∀ x ∈ g.nodes[i].outs,0 ≤ x ∧ x < ((g.nodes.length : Nat) : Int):=fun x hx=>by
 have hn:=gok_at h hi
 simp only [Kf,atOk,Bool.and_eq_true,Bool.not_eq_true',Bool.or_eq_false_iff,Bool.not_eq_false'] at hn
 have h1:=hn.1.1
 simp only [Y9,Bool.and_eq_true] at h1
 have h2:=Hh.1 (List.all_eq_true.1 h1.2 x hx)
 have h3:=List.all_eq_true.1 hn.2 x hx
 simp only [K9,Bool.not_eq_true',Bool.or_eq_false_iff,decide_eq_false_iff_not] at h3
 omega
theorem Td (h : Yf g = true) (hi : i < g.nodes.length) : (List.getD g.nodes i default).outs.length ≤ 2:=by
 have hn:=gok_at h hi
 simp only [Kf,atOk,Bool.and_eq_true,Bool.not_eq_true',Bool.or_eq_false_iff,Bool.not_eq_false'] at hn
 have h1:=hn.1.1
 simp only [Y9,Cw,Bool.and_eq_true,Bool.not_eq_true',Bool.or_eq_false_iff,decide_eq_false_iff_not] at h1
 rw [Ka hi];omega
end
def hasLoopM (g : Graph) : Bool:=!G4 g.nodes.length (fun j=>!reaches g ((j : Nat) : Int) ((j : Nat) : Int))
def numNd (k : Nat) (x : Node) : Nat:=k + 1 * x.outs.length
def markNd (k : Nat) (x : Node) : Node:=⟨x.kind,x.a,x.b,mkL 1 mkInt k x.outs.length⟩
def markN1 (k : Nat) (x : Node) : Node:=⟨((k : Nat) : Int),((k + 1 : Nat) : Int),((k + 1 + 1 : Nat) : Int),mkL 1 mkInt (k + 1 + 1 + 1) x.outs.length⟩
def Ao (k : Nat) (x : Node) : Nat:=k + 1 + 1 + 1 + 1 * x.outs.length
def Tx {α : Type} (n : Nat → α → Nat) : Nat → List α → Nat
 | k,[]=>k
 | k,x :: xs=>Tx n (n k x) xs
def markA {α : Type} (n : Nat → α → Nat) (m : Nat → α → α) : Nat → List α → List α
 | _,[]=>[]
 | k,x :: xs=>m k x :: markA n m (n k x) xs
section
variable {α : Type} {n : Nat → α → Nat} {m : Nat → α → α} {cnt : α → Nat} {c : Nat}
end
def numL1 (k : Nat) (x : Link) : Nat:=k + 1 + 5 * x.queue.length + 1 + 1 + 1 + 1
def markL1 (k : Nat) (x : Link) : Link:=⟨((k : Nat) : Int),mkL 5 Tf (k + 1) x.queue.length,((k + 1 + 5 * x.queue.length : Nat) : Int),((k + 1 + 5 * x.queue.length + 1 : Nat) : Int),((k + 1 + 5 * x.queue.length + 1 + 1 : Nat) : Int),((k + 1 + 5 * x.queue.length + 1 + 1 + 1 : Nat) : Int)⟩
def numCl (k : Nat) (x : Cluster) : Nat:=Tx numL1 (Tx numW (Tx Ao k x.graph.nodes) x.workers) x.links + 5 * x.tokens.length + 3 * x.news.length
def markCl (k : Nat) (x : Cluster) : Cluster :=
 ⟨⟨markA Ao markN1 k x.graph.nodes,x.graph.workers,x.graph.cap⟩,markA numW markW (Tx Ao k x.graph.nodes) x.workers,markA numL1 markL1 (Tx numW (Tx Ao k x.graph.nodes) x.workers) x.links,
  mkL 5 mkToken (Tx numL1 (Tx numW (Tx Ao k x.graph.nodes) x.workers) x.links) x.tokens.length,mkL 3 mkNews (Tx numL1 (Tx numW (Tx Ao k x.graph.nodes) x.workers) x.links + 5 * x.tokens.length) x.news.length⟩
def outsTo (g : Graph) (k : Nat) : List Int:=((List.range k).filter (fun i=>(List.getD g.nodes i default).kind == 8)).map fun i=>((i : Nat) : Int)
def outOf (g : Graph) (x : Cell) : Bool:=Xd g x.op && ((List.getD g.nodes (Int.toNat x.op) default).kind == 8)
def Yi (xs : List Record) : Worker:=⟨[],[],xs,[],[0,0,0,0],[false,false,false,false],[false,false,false,false],[]⟩
def Yz (x : Worker) (r : Record) : Worker:=⟨x.queue ++ [r],x.staged,x.inputs,x.cells,x.sums,x.black,x.caps,x.dones⟩
theorem V2 (xs : List Record) : Q4 (Yi xs) = xs.length + 12:=by simp [Q4,Yi]
theorem sent_of {n : Nat} {e : Int} (hm : n ≤ maxLen) (h : Y0 e 0 (IntKind.i64.wrap (((n : Nat) : Int) - 1)) = true) : 0 ≤ e ∧ e < ((n : Nat) : Int) ∧ Int.toNat e < n:=by
 rw [isN_w hm] at h
 have:=Hh.1 h
 omega
theorem sent_no {n : Nat} {e : Int} (hm : n ≤ maxLen) (h : Y0 e 0 (IntKind.i64.wrap (((n : Nat) : Int) - 1)) = false) : ¬ (0 ≤ e ∧ e < ((n : Nat) : Int)):=fun hx=>by
 rw [isN_w hm] at h
 have : Y0 e 0 (((n : Nat) : Int) - 1) = true:=Hh.2 ⟨hx.1,by omega⟩
 rw [this] at h;cases h
def Ga (x : Worker) (e : Int) : Worker:=if 0 ≤ e ∧ e < ((x.sums.length : Nat) : Int) then ⟨x.queue,x.staged,x.inputs,x.cells,x.sums.set (Int.toNat e) (IntKind.i64.wrap (List.getD x.sums (Int.toNat e) default + 1)),x.black,x.caps,x.dones⟩ else x
theorem Ai {x : Worker} {e : Int} (h : 0 ≤ e ∧ e < ((x.sums.length : Nat) : Int) ∧ Int.toNat e < x.sums.length) : Ga x e = ⟨x.queue,x.staged,x.inputs,x.cells,x.sums.set (Int.toNat e) (IntKind.i64.wrap ((x.sums[Int.toNat e]'h.2.2) + 1)),x.black,x.caps,x.dones⟩:=by
 rw [Ga,if_pos ⟨h.1,h.2.1⟩,Ka h.2.2]
theorem sentW_no {x : Worker} {e : Int} (hm : x.sums.length ≤ maxLen) (h : Y0 e 0 (IntKind.i64.wrap (((x.sums.length : Nat) : Int) - 1)) = false) : Ga x e = x:=by
 rw [Ga,if_neg (sent_no hm h)]
def U1 (x : Worker) (r : Record) : Prop:=0 ≤ r.stamp.epoch ∧ r.stamp.epoch < ((x.sums.length : Nat) : Int) ∧ r.stamp.epoch < ((x.black.length : Nat) : Int) ∧ Int.toNat r.stamp.epoch < x.sums.length ∧ Int.toNat r.stamp.epoch < x.black.length
instance (x : Worker) (r : Record) : Decidable (U1 x r):=by unfold U1;infer_instance
def Ut (x : Worker) (r : Record) : Worker:=if U1 x r then ⟨x.queue ++ [r],x.staged,x.inputs,x.cells,x.sums.set (Int.toNat r.stamp.epoch) (IntKind.i64.wrap (List.getD x.sums (Int.toNat r.stamp.epoch) default - 1)),x.black.set (Int.toNat r.stamp.epoch) true,x.caps,x.dones⟩ else Yz x r
theorem Aj {x : Worker} {r : Record} (h : U1 x r) : Ut x r = ⟨x.queue ++ [r],x.staged,x.inputs,x.cells,x.sums.set (Int.toNat r.stamp.epoch) (IntKind.i64.wrap ((x.sums[Int.toNat r.stamp.epoch]'h.2.2.2.1) - 1)),x.black.set (Int.toNat r.stamp.epoch) true,x.caps,x.dones⟩:=by
 rw [Ut,if_pos h,Ka h.2.2.2.1]
theorem recvW_no {x : Worker} {r : Record} (h : ¬ U1 x r) : Ut x r = Yz x r:=by rw [Ut,if_neg h]
theorem recv_i {x : Worker} {r : Record} (h1 : x.sums.length ≤ maxLen) (h2 : x.black.length ≤ maxLen) (h : Y0 r.stamp.epoch 0 (IntKind.i64.wrap ((if ((x.black.length : Nat) : Int) < ((x.sums.length : Nat) : Int) then ((x.black.length : Nat) : Int) else ((x.sums.length : Nat) : Int)) - 1)) = true) : U1 x r:=by
 unfold maxLen at h1 h2
 rw [Xx (by split <;> omega) (by split <;> omega)] at h
 have:=Hh.1 h
 unfold U1
 split at this <;> omega
theorem recv_in {x : Worker} {r : Record} (h1 : x.sums.length ≤ maxLen) (h2 : x.black.length ≤ maxLen) (h : Y0 r.stamp.epoch 0 (IntKind.i64.wrap ((if ((x.black.length : Nat) : Int) < ((x.sums.length : Nat) : Int) then ((x.black.length : Nat) : Int) else ((x.sums.length : Nat) : Int)) - 1)) = false) : ¬ U1 x r:=fun hx=>by
 unfold maxLen at h1 h2
 rw [Xx (by split <;> omega) (by split <;> omega)] at h
 unfold U1 at hx
 rw [Hh.2 ⟨hx.1,by split <;> omega⟩] at h;cases h
theorem recv_s {x : Worker} {r : Record} (h1 : x.sums.length ≤ maxLen) (h : (Y0 r.stamp.epoch 0 (IntKind.i64.wrap (((x.sums.length : Nat) : Int) - 1)) && decide (r.stamp.epoch < ((x.black.length : Nat) : Int))) = true) : U1 x r:=by
 simp only [Bool.and_eq_true,decide_eq_true_eq] at h
 have:=sent_of h1 h.1
 unfold U1;omega
theorem recv_sn {x : Worker} {r : Record} (h1 : x.sums.length ≤ maxLen) (h : (Y0 r.stamp.epoch 0 (IntKind.i64.wrap (((x.sums.length : Nat) : Int) - 1)) && decide (r.stamp.epoch < ((x.black.length : Nat) : Int))) = false) : ¬ U1 x r:=fun hx=>by
 unfold U1 at hx
 rw [isN_w h1,Hh.2 ⟨hx.1,by omega⟩,Bool.true_and,decide_eq_false_iff_not] at h
 exact h hx.2.2.1
theorem cnt_recv (x : Worker) (r : Record) : Q4 (Ut x r) = Q4 x + 1:=by unfold Ut;split <;> simp [Q4,Yz] <;> omega
section
variable {x y : Cluster}
end
def goN (xs : List Token) : Nat:=(xs.filter (fun t=>t.going)).length
def defS (e n : Int) (x : Worker) : Int:=if 0 ≤ e ∧ e < ((x.sums.length : Nat) : Int) then IntKind.i64.wrap (n + List.getD x.sums (Int.toNat e) default) else n
def defTo (c : Cluster) (e : Int) (k : Nat) : Int:=(c.workers.take k).foldl (defS e) 0
def linkOk (l : Link) : Bool:=(((((((Y0 l.cap 1 4 && Y0 l.credits 0 l.cap) && Y0 l.back 0 l.cap) && (IntKind.i64.wrap (IntKind.i64.wrap (l.credits + l.back) + ((l.queue.length : Nat) : Int)) == l.cap)) && Y0 l.sent 0 1000000000) && (l.got == l.sent - ((l.queue.length : Nat) : Int))) && decide (0 ≤ l.got)) && l.queue.all Yn)
section
variable {x : Link}
end
def lkBad (g : Graph) (k : Nat) (l : Link) : Bool:=((!(linkOk l) || (l.cap != g.cap)) || !(l.queue.all (X6 g))) || ((IntKind.i64.wrap (Int.tdiv ((k : Nat) : Int) g.workers) == Int.tmod ((k : Nat) : Int) g.workers) && decide (0 < ((l.queue.length : Nat) : Int)))
def tkBad (g : Graph) (t : Token) : Bool:=(!(Y0 t.place 0 (IntKind.i64.wrap (g.workers - 1))) || (!t.going && (t.place != 0))) || !(Y0 t.sum (-1000000) 1000000)
def nwBad (g : Graph) (t : News) : Bool:=!(Y0 t.dest 0 (IntKind.i64.wrap (g.workers - 1))) || !(Y0 t.epoch 0 3)
def clHead (c : Cluster) : Bool:=((!(Yf c.graph) || (((c.workers.length : Nat) : Int) != c.graph.workers)) || (((c.links.length : Nat) : Int) != IntKind.i64.wrap (c.graph.workers * c.graph.workers))) || (((c.tokens.length : Nat) : Int) != 4)
def clOk (c : Cluster) : Bool:=!(clHead c) && c.workers.all (Yc c.graph) && G4 c.links.length (fun j=>!lkBad c.graph j (List.getD c.links j default)) && c.tokens.all (fun t=>!tkBad c.graph t) && c.news.all (fun t=>!nwBad c.graph t)
section
variable {x : Cluster} {k : Nat}
end
section
variable {α : Type} {xs ys : List α} {p : α → Bool} {i j : Nat}
theorem find_some (h : ¬ Gf xs p = -1) : xs.any p = true:=by
 unfold Gf at h
 split at h
 ·assumption
 ·exact absurd rfl h
theorem find_eq (h : xs.any p = true) : Gf xs p = ((xs.findIdx p : Nat) : Int):=by rw [Gf,if_pos h]
theorem find_lt (h : xs.any p = true) : xs.findIdx p < xs.length:=by
 rw [List.any_eq_true] at h
 exact List.findIdx_lt_length_of_exists h
theorem del_none (h : Gf xs p = -1) : xs.filter (fun y=>!(p y)) = xs:=by
 unfold Gf at h
 split at h
 ·omega
 ·rename_i hn
  rw [List.filter_eq_self]
  intro y hy
  have : p y = false:=by
   cases hq : p y with
   | false=>rfl
   | true=>exact absurd (List.any_eq_true.2 ⟨y,hy,hq⟩) hn
  rw [this];rfl
theorem del_start (h : xs.any p = true) : xs.take (xs.findIdx p) = (xs.take (xs.findIdx p + 1)).filter (fun y=>!(p y)):=by
 have hl:=find_lt h
 rw [List.take_succ_eq_append_getElem hl,List.filter_append]
 have h1 : p xs[xs.findIdx p] = true:=List.findIdx_getElem
 have h2 : (xs.take (xs.findIdx p)).filter (fun y=>!(p y)) = xs.take (xs.findIdx p):=by
  rw [List.filter_eq_self]
  intro y hy
  rw [List.mem_take_iff_getElem] at hy
  obtain ⟨q,hq,rfl⟩:=hy
  have:=List.not_of_lt_findIdx (p:=p) (xs:=xs) (i:=q) (by omega)
  simpa using this
 rw [h2];simp [h1]
theorem del_same (hD : ys.drop j = xs.drop j) (hyl : ys.length = xs.length) (h1 : j < ys.length) : ys[j] = xs[j]'(by omega):=by
 have:=congrArg (fun l=>l[0]?) hD
 simp only [List.getElem?_drop,Nat.add_zero] at this
 rw [List.getElem?_eq_getElem h1,List.getElem?_eq_getElem (by omega)] at this
 exact Option.some.inj this
theorem del_no1 (hI : ys.take i = (xs.take j).filter (fun y=>!(p y))) (hD : ys.drop j = xs.drop j) (hyl : ys.length = xs.length) (_ : i < j) (h1 : j < ys.length) (hc : p ys[j] = true) : ys.take i = (xs.take (j + 1)).filter (fun y=>!(p y)):=by
 rw [List.take_succ_eq_append_getElem (by omega),List.filter_append,← hI,← del_same hD hyl h1];simp [hc]
theorem del_no2 (hD : ys.drop j = xs.drop j) (_ : ys.length = xs.length) (_ : i < j) : ys.drop (j + 1) = xs.drop (j + 1):=by
 rw [← List.drop_drop,← List.drop_drop,hD]
theorem del_yes1 (hI : ys.take i = (xs.take j).filter (fun y=>!(p y))) (hD : ys.drop j = xs.drop j) (hyl : ys.length = xs.length) (hij : i < j) (h1 : j < ys.length) (hc : p ys[j] = false) : (ys.set i ys[j]).take (i + 1) = (xs.take (j + 1)).filter (fun y=>!(p y)):=by
 rw [List.take_succ_eq_append_getElem (l:=xs) (by omega),List.filter_append,← hI,← del_same hD hyl h1]
 rw [List.take_succ_eq_append_getElem (by simp;omega),List.take_set_of_le (Nat.le_refl _)]
 simp [hc]
theorem del_yes2 (hD : ys.drop j = xs.drop j) (hyl : ys.length = xs.length) (hij : i < j) {y : α} : (ys.set i y).drop (j + 1) = xs.drop (j + 1):=by
 rw [List.drop_set_of_lt (by omega)];exact del_no2 hD hyl hij
theorem del_end (hI : ys.take i = (xs.take j).filter (fun y=>!(p y))) (h : xs.length ≤ j) : ys.take i = xs.filter (fun y=>!(p y)):=by rw [hI,List.take_of_length_le h]
end
def Gc (x y : Cell) : Bool:=decide (X4 y x < 0)
def U4 (xs : List Cell) (x : Cell) : Nat:=xs.findIdx (fun y=>!(Gc x y))
def Gw (xs : List Cell) (x : Cell) : List Cell:=if x ∈ xs then xs else Ce xs (U4 xs x) x
section
variable {xs : List Cell} {x : Cell} {k : Nat}
theorem Cr (h : decide (x ∈ xs) = true) : Gw xs x = xs:=by rw [Gw,if_pos (of_decide_eq_true h)]
theorem put_lt (h : (decide (((k : Nat) : Int) < ((xs.length : Nat) : Int)) && decide (X4 (List.getD xs k default) x < 0)) = true) : k < xs.length:=by
 have:=of_decide_eq_true (Bool.and_eq_true _ _ ▸ h).1
 omega
theorem put_step (hI : (xs.take k).all (Gc x) = true) (h : (decide (((k : Nat) : Int) < ((xs.length : Nat) : Int)) && decide (X4 (List.getD xs k default) x < 0)) = true) : (xs.take (k + 1)).all (Gc x) = true:=by
 have hk:=put_lt h
 refine Ux hI hk ?_
 have:=(Bool.and_eq_true _ _ ▸ h).2
 rw [Ka hk] at this
 exact this
theorem put_at (hI : (xs.take k).all (Gc x) = true) (hk : k ≤ xs.length) (h : (decide (((k : Nat) : Int) < ((xs.length : Nat) : Int)) && decide (X4 (List.getD xs k default) x < 0)) = false) : U4 xs x = k:=by
 have hlt : ∀ j,j < k → ∀ hj : j < xs.length,Gc x xs[j] = true:=fun j h1 hj=>List.all_eq_true.1 hI _ (List.mem_take_iff_getElem.2 ⟨j,by omega,rfl⟩)
 unfold U4
 by_cases hkl : k < xs.length
 ·rw [List.findIdx_eq hkl]
  refine ⟨?_,fun j hj=>by rw [hlt j hj (by omega)];rfl⟩
  simp only [show decide (((k : Nat) : Int) < ((xs.length : Nat) : Int)) = true from decide_eq_true (by omega),Bool.true_and] at h
  rw [Ka hkl] at h
  show (!(decide (X4 xs[k] x < 0))) = true
  rw [h];rfl
 ·obtain rfl : k = xs.length:=by omega
  rw [List.findIdx_eq_length_of_false]
  intro y hy
  obtain ⟨j,hj,rfl⟩:=List.getElem_of_mem hy
  rw [hlt j hj hj];rfl
theorem putM_no (hn : decide (x ∈ xs) = false) (hI : (xs.take k).all (Gc x) = true) (hk : k ≤ xs.length) (h : (decide (((k : Nat) : Int) < ((xs.length : Nat) : Int)) && decide (X4 (List.getD xs k default) x < 0)) = false) : Gw xs x = Ce xs k x:=by
 rw [Gw,if_neg (of_decide_eq_false hn),put_at hI hk h]
end
theorem putM_len (xs : List Cell) (x : Cell) : (Gw xs x).length ≤ xs.length + 1:=by
 unfold Gw
 split
 ·omega
 ·simp [Ce];omega
def Xe (xs : List Cell) (x : Cell) : List Cell × Bool :=
 if ((Yk xs x.op x.epoch x.key).2 && decide ((Yk xs x.op x.epoch x.key).1 ≤ x.val)) = true then (xs,false) else (Gw (xs.filter (fun y=>!(Kx x y))) x,true)
def X1 (kind : Int) (xs : List Cell) (x : Cell) : List Cell × Bool :=
 if (kind == 5) = true ∨ (kind == 8) = true then Xe xs x else if (kind == 6) = true then (Gw xs x,!decide (x ∈ xs)) else (xs,true)
section
variable {kind : Int} {xs : List Cell} {x y : Cell}
theorem Ua (h : ((Yk xs x.op x.epoch x.key).2 && decide ((Yk xs x.op x.epoch x.key).1 ≤ x.val)) = true) : Xe xs x = (xs,false):=by rw [Xe,if_pos h]
theorem Vl (h : ((Yk xs x.op x.epoch x.key).2 && decide ((Yk xs x.op x.epoch x.key).1 ≤ x.val)) = false) : Xe xs x = (Gw (xs.filter (fun y=>!(Kx x y))) x,true):=by rw [Xe,if_neg (by rw [h];simp)]
theorem V4 (h : (kind == 5) = true ∨ (kind == 8) = true) : X1 kind xs x = Xe xs x:=by rw [X1,if_pos h]
theorem six_not (h : (kind == 6) = true) : ¬ ((kind == 5) = true ∨ (kind == 8) = true):=by
 simp only [beq_iff_eq] at *;omega
theorem Tu (h : (kind == 6) = true) : X1 kind xs x = (Gw xs x,!decide (x ∈ xs)):=by rw [X1,if_neg (six_not h),if_pos h]
theorem recallM_h (h : (kind == 6) = true) (hm : decide (x ∈ xs) = true) : X1 kind xs x = (xs,false):=by rw [Tu h,Cr hm,hm];rfl
theorem recallM_i (h : (kind == 6) = true) (hm : decide (x ∈ xs) = false) : X1 kind xs x = (Gw xs x,true):=by rw [Tu h,hm];rfl
theorem Tt (h5 : (kind == 5) = false) (h8 : (kind == 8) = false) (h6 : (kind == 6) = false) : X1 kind xs x = (xs,true):=by
 rw [X1,if_neg (by simp [h5,h8]),if_neg (by simp [h6])]
theorem Cc : (Xe xs x).1.length ≤ xs.length + 1:=by
 unfold Xe
 split
 ·simp
 ·exact Nat.le_trans (putM_len _ _) (by have:=List.length_filter_le (fun y=>!(Kx x y)) xs;omega)
theorem recallM_len (kind : Int) (xs : List Cell) (x : Cell) : (X1 kind xs x).1.length ≤ xs.length + 1:=by
 unfold X1
 split
 ·exact Cc
 ·split
  ·exact putM_len _ _
  ·simp
theorem ns_eq : (((y.op != x.op) || (y.epoch != x.epoch)) || (y.key != x.key)) = !(Kx x y):=by
 unfold Kx
 rw [Bool.eq_iff_iff]
 simp [bne,Bool.not_and]
 constructor <;> intro h <;> omega
theorem ns_yes (h : (((y.op != x.op) || (y.epoch != x.epoch)) || (y.key != x.key)) = true) : (fun y=>!(Kx x y)) y = true:=by rw [ns_eq] at h;exact h
theorem ns_no (h : (((y.op != x.op) || (y.epoch != x.epoch)) || (y.key != x.key)) = false) : (fun y=>!(Kx x y)) y = false:=by rw [ns_eq] at h;exact h
end
def Qm (x : Node) (a b : Int) : Int × Int × Bool :=
 if (!(Y9 x) || !(Y0 a 0 99 && Y0 b 0 999)) = true then (a,b,false)
 else if (x.kind == 2) = true then (a,(if IntKind.i64.wrap (b + x.a) < 999 then IntKind.i64.wrap (b + x.a) else 999),true)
 else if (x.kind == 4) = true then (Int.tmod (IntKind.i64.wrap (a + x.a)) 100,b,true)
 else if (x.kind == 3) = true then (a,b,Int.tmod a x.a == x.b)
 else (a,b,x.kind != 8)
section
variable {x : Node} {a b : Int}
theorem ch_0 (h : (!(Y9 x) || !(Y0 a 0 99 && Y0 b 0 999)) = true) : Qm x a b = (a,b,false):=by rw [Qm,if_pos h]
theorem Hw {p : Bool} (h : p = false) : ¬ p = true:=by rw [h];simp
theorem ch_2 (h : (!(Y9 x) || !(Y0 a 0 99 && Y0 b 0 999)) = false) (h2 : (x.kind == 2) = true) : Qm x a b = (a,(if IntKind.i64.wrap (b + x.a) < 999 then IntKind.i64.wrap (b + x.a) else 999),true):=by rw [Qm,if_neg (Hw h),if_pos h2]
theorem kind_n {n m : Int} (h : (x.kind == n) = true) (hn : n ≠ m) : ¬ (x.kind == m) = true:=by simp only [beq_iff_eq] at *;omega
theorem ch_4 (h : (!(Y9 x) || !(Y0 a 0 99 && Y0 b 0 999)) = false) (h4 : (x.kind == 4) = true) : Qm x a b = (Int.tmod (IntKind.i64.wrap (a + x.a)) 100,b,true):=by
 rw [Qm,if_neg (Hw h),if_neg (kind_n h4 (by decide)),if_pos h4]
theorem ch_3 (h : (!(Y9 x) || !(Y0 a 0 99 && Y0 b 0 999)) = false) (h3 : (x.kind == 3) = true) : Qm x a b = (a,b,Int.tmod a x.a == x.b):=by
 rw [Qm,if_neg (Hw h),if_neg (kind_n h3 (by decide)),if_neg (kind_n h3 (by decide)),if_pos h3]
theorem ch_o (h : (!(Y9 x) || !(Y0 a 0 99 && Y0 b 0 999)) = false) (h2 : (x.kind == 2) = false) (h4 : (x.kind == 4) = false) (h3 : (x.kind == 3) = false) : Qm x a b = (a,b,x.kind != 8):=by
 rw [Qm,if_neg (Hw h),if_neg (Hw h2),if_neg (Hw h4),if_neg (Hw h3)]
theorem ch_s (h : ((!(Y9 x) || !(Y0 a 0 99)) || !(Y0 b 0 999)) = false) : (!(Y9 x) || !(Y0 a 0 99 && Y0 b 0 999)) = false:=by
 revert h;cases Y9 x <;> cases Y0 a 0 99 <;> cases Y0 b 0 999 <;> simp
theorem ch_st (h : ((!(Y9 x) || !(Y0 a 0 99)) || !(Y0 b 0 999)) = true) : (!(Y9 x) || !(Y0 a 0 99 && Y0 b 0 999)) = true:=by
 revert h;cases Y9 x <;> cases Y0 a 0 99 <;> cases Y0 b 0 999 <;> simp
theorem ch_ok (h : (!(Y9 x) || !(Y0 a 0 99 && Y0 b 0 999)) = false) : Y9 x = true:=by
 simpa using (Bool.or_eq_false_iff.1 h).1
theorem node_a3 (h : Y9 x = true) (h3 : (x.kind == 3) = true) : 1 ≤ x.a ∧ x.a ≤ 10:=by
 simp only [Y9,Bool.and_eq_true] at h
 have:=h.1.1
 rw [node_3 h3,Bool.and_eq_true] at this
 exact Hh.1 this.1
theorem min_999 {n : Int} : (if n < 999 then n else 999) = (if 999 < n then 999 else n):=by split <;> split <;> omega
end
def Uu (g : Graph) (x : Cell) : Bool:=((!(Yf g) || !(Xd g x.op)) || !(Y0 x.epoch 0 3)) || !(Y0 x.key 0 99 && Y0 x.val 0 999)
def impCh (g : Graph) (x : Cell) : Int × Int × Bool:=Qm (List.getD g.nodes (Int.toNat x.op) default) x.key x.val
def impTo (g : Graph) (x : Cell) (k : Nat) : List Cell:=((List.getD g.nodes (Int.toNat x.op) default).outs.take k).map fun n=>⟨n,x.epoch,(impCh g x).1,(impCh g x).2.1⟩
def Xf (g : Graph) (best : List Cell) (x : Cell) : List Cell × List Cell :=
 if Uu g x = true then (best,[]) else if (!((Xe best x).2) || !((impCh g x).2.2)) = true then ((Xe best x).1,[]) else ((Xe best x).1,impTo g x (List.getD g.nodes (Int.toNat x.op) default).outs.length)
section
variable {g : Graph} {xs : List Cell} {x : Cell} {k : Nat}
theorem imp_of (h : Uu g x = false) : Yf g = true ∧ Xd g x.op = true:=by
 simp only [Uu,Bool.or_eq_false_iff,Bool.not_eq_false'] at h
 exact h.1.1
theorem imp_0 (h : Uu g x = true) : Xf g xs x = (xs,[]):=by rw [Xf,if_pos h]
theorem impTo_len (g : Graph) (x : Cell) (k : Nat) : (impTo g x k).length ≤ k:=by simp only [impTo,List.length_map,List.length_take];omega
theorem improve_len1 : (Xf g xs x).1.length ≤ xs.length + 1:=by
 unfold Xf
 split
 ·simp
 ·split <;> exact Cc
theorem improve_len2 : (Xf g xs x).2.length ≤ 2:=by
 unfold Xf
 split
 ·simp
 ·rename_i h
  split
  ·simp
  ·have hq:=imp_of (Bool.eq_false_iff.2 h)
   have:=Td (i:=Int.toNat x.op) hq.1 (Ue hq.2).2.2
   exact Nat.le_trans (impTo_len _ _ _) this
end
section
variable {g : Graph} {xs : List Cell} {x : Cell} {k : Nat}
theorem nodeOf_1 {op : Int} (h : Xd g op = true) : (Qn g op).1 = List.getD g.nodes (Int.toNat op) default:=by rw [Qn,if_pos h]
theorem Aw (h : (Xe xs x).2 = false) : (Xe xs x).1 = xs:=by
 unfold Xe at *
 split at h
 ·rename_i hq;rw [if_pos hq]
 ·cases h
theorem not_t {p : Bool} (h : (!p) = true) : p = false:=by simpa using h
theorem not_f {p : Bool} (h : (!p) = false) : p = true:=by simpa using h
def icP (g : Graph) (xs : List Cell) (x : Cell) : Bool:=((Xf g [] x).2).all (nwP xs)
def isClosedM (g : Graph) (xs : List Cell) : Bool:=Yf g && xs.all (icP g xs)
end
def Xa (x : Worker) : Worker × Record × Bool:=if x.staged.length = 0 then (x,⟨0,⟨0,0⟩,0,0⟩,false) else (⟨x.queue,x.staged.drop 1,x.inputs,x.cells,x.sums,x.black,x.caps,x.dones⟩,List.getD x.staged 0 default,true)
theorem unst_no {x : Worker} (h : (((x.staged.length : Nat) : Int) == 0) = true) : Xa x = (x,⟨0,⟨0,0⟩,0,0⟩,false):=by
 have h0 : x.staged.length = 0:=by have:=eq_of_beq h;omega
 rw [Xa,if_pos h0]
theorem unst_lt {x : Worker} (h : (((x.staged.length : Nat) : Int) == 0) = false) : 0 < x.staged.length:=by
 have h0 : ((x.staged.length : Nat) : Int) ≠ 0:=fun e=>by rw [e] at h;cases h
 omega
theorem unst_yes {x : Worker} (h : 0 < x.staged.length) : Xa x = (⟨x.queue,x.staged.drop 1,x.inputs,x.cells,x.sums,x.black,x.caps,x.dones⟩,x.staged[0],true):=by
 rw [Xa,if_neg (by omega),Ka h]
theorem cnt_unst (x : Worker) : Q4 (Xa x).1 ≤ Q4 x:=by
 unfold Xa
 split
 ·exact Nat.le_refl _
 ·simp [Q4]
def H9 (g : Graph) (x : Worker) : Bool:=((((!(Yf g) || !(Yc g x)) || (decide (0 < ((x.staged.length : Nat) : Int)))) || (decide (0 < ((x.queue.length : Nat) : Int)))) || (((x.inputs.length : Nat) : Int) == 0))
def Yd (g : Graph) (x : Worker) : Worker × Bool:=if H9 g x = true then (x,false) else (⟨x.queue ++ [List.getD x.inputs 0 default],x.staged,x.inputs.drop 1,x.cells,x.sums,x.black,x.caps,x.dones⟩,true)
section
variable {g : Graph} {x : Worker}
theorem take_no (h : H9 g x = true) : Yd g x = (x,false):=by rw [Yd,if_pos h]
theorem take_lt (h : H9 g x = false) : 0 < x.inputs.length:=by
 have h1:=(Bool.or_eq_false_iff.1 h).2
 have h0 : ((x.inputs.length : Nat) : Int) ≠ 0:=fun e=>by rw [e] at h1;cases h1
 omega
theorem take_yes (h : H9 g x = false) (hl : 0 < x.inputs.length) : Yd g x = (⟨x.queue ++ [x.inputs[0]],x.staged,x.inputs.drop 1,x.cells,x.sums,x.black,x.caps,x.dones⟩,true):=by
 rw [Yd,if_neg (Hw h),Ka hl]
theorem cnt_take : Q4 (Yd g x).1 ≤ Q4 x:=by
 unfold Yd
 split
 ·exact Nat.le_refl _
 ·rename_i h
  have:=take_lt (Bool.eq_false_iff.2 h)
  simp [Q4];omega
end
def V9 (g : Graph) (r : Record) : Bool:=(!(Yf g) || !(Yn r)) || !(Xd g r.op)
def Km (g : Graph) (r : Record) : Node:=List.getD g.nodes (Int.toNat r.op) default
def stCh (g : Graph) (r : Record) : Int × Int × Bool:=Qm (Km g r) r.key r.val
def stRec (g : Graph) (cs : List Cell) (r : Record) : List Cell × Bool:=X1 (Km g r).kind cs ⟨r.op,r.stamp.epoch,r.key,r.val⟩
def stTo (g : Graph) (r : Record) (s : Stamp) (k : Nat) : List Record:=((Km g r).outs.take k).map fun n=>⟨n,s,(stCh g r).1,(stCh g r).2.1⟩
def K3 (g : Graph) (r : Record) : Stamp × Bool:=if ((Km g r).kind == 7) = true then Yr r.stamp else (r.stamp,true)
def Xw (g : Graph) (cs : List Cell) (r : Record) : List Cell × List Record × Bool :=
 if V9 g r = true then (cs,[],false)
 else if (!((stCh g r).2.2) && ((Km g r).kind != 8)) = true then (cs,[],true)
 else if (!((stRec g cs r).2)) = true then ((stRec g cs r).1,[],true)
 else ((stRec g cs r).1,if (K3 g r).2 = true then stTo g r (K3 g r).1 (Km g r).outs.length else [],true)
def U9 (g : Graph) (r : Record) (k : Nat) : List Record:=if (K3 g r).2 = true then stTo g r (K3 g r).1 k else []
section
variable {g : Graph} {cs : List Cell} {r : Record} {x : Node} {k : Nat}
theorem st_of (h : V9 g r = false) : Yf g = true ∧ Xd g r.op = true:=by
 simp only [V9,Bool.or_eq_false_iff,Bool.not_eq_false'] at h
 exact ⟨h.1.1,h.2⟩
theorem st_0 (h : V9 g r = true) : Xw g cs r = (cs,[],false):=by rw [Xw,if_pos h]
theorem st_1 (h : V9 g r = false) (hx : x = Km g r) (hc : (!((Qm x r.key r.val).2.2) && (x.kind != 8)) = true) : Xw g cs r = (cs,[],true):=by
 subst hx
 have hc' : (!((stCh g r).2.2) && ((Km g r).kind != 8)) = true:=hc
 rw [Xw,if_neg (Hw h),if_pos hc']
theorem st_2 (h : V9 g r = false) (hx : x = Km g r) (hc : (!((Qm x r.key r.val).2.2) && (x.kind != 8)) = false) (hq : (!((X1 x.kind cs ⟨r.op,r.stamp.epoch,r.key,r.val⟩).2)) = true) : Xw g cs r = ((X1 x.kind cs ⟨r.op,r.stamp.epoch,r.key,r.val⟩).1,[],true):=by
 subst hx
 have hc' : (!((stCh g r).2.2) && ((Km g r).kind != 8)) = false:=hc
 have hq' : (!((stRec g cs r).2)) = true:=hq
 rw [Xw,if_neg (Hw h),if_neg (Hw hc'),if_pos hq'];rfl
theorem st_3 (h : V9 g r = false) (hx : x = Km g r) (hc : (!((Qm x r.key r.val).2.2) && (x.kind != 8)) = false) (hq : (!((X1 x.kind cs ⟨r.op,r.stamp.epoch,r.key,r.val⟩).2)) = false) : Xw g cs r = ((X1 x.kind cs ⟨r.op,r.stamp.epoch,r.key,r.val⟩).1,U9 g r x.outs.length,true):=by
 subst hx
 have hc' : (!((stCh g r).2.2) && ((Km g r).kind != 8)) = false:=hc
 have hq' : (!((stRec g cs r).2)) = false:=hq
 rw [Xw,if_neg (Hw h),if_neg (Hw hc'),if_neg (Hw hq')];rfl
theorem stamp_7 (hx : x = Km g r) (h : (x.kind == 7) = true) : K3 g r = Yr r.stamp:=by subst hx;rw [K3,if_pos h]
theorem stamp_o (hx : x = Km g r) (h : (x.kind == 7) = false) : K3 g r = (r.stamp,true):=by subst hx;rw [K3,if_neg (Hw h)]
theorem out_zero : (U9 g r 0).flatMap Enc.enc = []:=by unfold U9;split <;> simp [stTo]
theorem Gl {s : Stamp} (hs : (K3 g r).1 = s) (hok : (K3 g r).2 = true) (hx : x = Km g r) (hk : k < x.outs.length) : (U9 g r k).flatMap Enc.enc ++ Enc.enc (⟨x.outs[k],s,(Qm x r.key r.val).1,(Qm x r.key r.val).2.1⟩ : Record) = (U9 g r (k + 1)).flatMap Enc.enc:=by
 subst hx hs
 simp only [U9,if_pos hok,stTo,stCh]
 rw [List.take_succ_eq_append_getElem hk,List.map_append,List.flatMap_append];simp
theorem out_skip (hok : (K3 g r).2 = false) : (U9 g r k).flatMap Enc.enc = (U9 g r (k + 1)).flatMap Enc.enc:=by
 unfold U9;rw [if_neg (Hw hok),if_neg (Hw hok)]
theorem out_no (hok : (K3 g r).2 = false) : U9 g r k = []:=by unfold U9;rw [if_neg (Hw hok)]
theorem Gd (g : Graph) (r : Record) (k : Nat) : (U9 g r k).length ≤ k:=by
 unfold U9
 split
 ·simp only [stTo,List.length_map,List.length_take];omega
 ·simp
theorem Tv (h : ((x.kind == 5) || (x.kind == 6) || (x.kind == 8)) = false) (c : Cell) : X1 x.kind cs c = (cs,true):=by
 simp only [Bool.or_eq_false_iff] at h
 exact Tt h.1.1 h.2 h.1.2
theorem step_len1 : (Xw g cs r).1.length ≤ cs.length + 1:=by
 unfold Xw
 split
 ·simp
 ·split
  ·simp
  ·split <;> exact recallM_len _ _ _
theorem step_len2 : (Xw g cs r).2.1.length ≤ 2:=by
 unfold Xw
 split
 ·simp
 ·rename_i h
  have hq:=st_of (Bool.eq_false_iff.2 h)
  have:=Td (i:=Int.toNat r.op) hq.1 (Ue hq.2).2.2
  split
  ·simp
  ·split
   ·simp
   ·exact Nat.le_trans (Gd g r _) this
end
section
variable {g : Graph} {cs : List Cell} {r : Record}
theorem st_sp : ((!((Qn g r.op).2) || !(Yf g)) || !(Yn r)) = V9 g r:=by
 rw [Cy,V9]
 cases Yf g <;> cases Xd g r.op <;> cases Yn r <;> rfl
theorem st_spt (h : ((!((Qn g r.op).2) || !(Yf g)) || !(Yn r)) = true) : V9 g r = true:=by rw [st_sp] at h;exact h
theorem st_spf (h : ((!((Qn g r.op).2) || !(Yf g)) || !(Yn r)) = false) : V9 g r = false:=by rw [st_sp] at h;exact h
end
def Vz (g : Graph) (x : Worker) : Bool:=(((!(Yf g) || !(Yc g x)) || (decide (0 < ((x.staged.length : Nat) : Int)))) || (((x.queue.length : Nat) : Int) == 0))
def G1 (x : Worker) : Record:=List.getD x.queue 0 default
def Q2 (g : Graph) (x : Worker) : Worker × Bool:=if Vz g x = true then (x,false) else
 (⟨x.queue.drop 1,(Xw g x.cells (G1 x)).2.1,x.inputs,(Xw g x.cells (G1 x)).1,x.sums,x.black,if Uz g (G1 x) = true then x.caps.set (Int.toNat (G1 x).stamp.epoch) true else x.caps,x.dones⟩,true)
section
variable {g : Graph} {x : Worker}
theorem work_no (h : Vz g x = true) : Q2 g x = (x,false):=by rw [Q2,if_pos h]
theorem work_lt (h : Vz g x = false) : 0 < x.queue.length:=by
 have h1:=(Bool.or_eq_false_iff.1 h).2
 have h0 : ((x.queue.length : Nat) : Int) ≠ 0:=fun e=>by rw [e] at h1;cases h1
 omega
theorem work_c (h : Vz g x = false) (hl : 0 < x.queue.length) (hc : Uz g x.queue[0] = true) : Q2 g x = (⟨x.queue.drop 1,(Xw g x.cells x.queue[0]).2.1,x.inputs,(Xw g x.cells x.queue[0]).1,x.sums,x.black,x.caps.set (Int.toNat x.queue[0].stamp.epoch) true,x.dones⟩,true):=by
 have hr : G1 x = x.queue[0]:=Ka hl
 rw [Q2,if_neg (Hw h),hr,if_pos hc]
theorem work_n (h : Vz g x = false) (hl : 0 < x.queue.length) (hc : Uz g x.queue[0] = false) : Q2 g x = (⟨x.queue.drop 1,(Xw g x.cells x.queue[0]).2.1,x.inputs,(Xw g x.cells x.queue[0]).1,x.sums,x.black,x.caps,x.dones⟩,true):=by
 have hr : G1 x = x.queue[0]:=Ka hl
 rw [Q2,if_neg (Hw h),hr,if_neg (Hw hc)]
theorem work_cap (h : Vz g x = false) (hl : 0 < x.queue.length) (hc : Uz g x.queue[0] = true) : 0 ≤ x.queue[0].stamp.epoch ∧ Int.toNat x.queue[0].stamp.epoch < x.caps.length:=by
 simp only [Vz,Bool.or_eq_false_iff,Bool.not_eq_false'] at h
 have hw:=h.1.1.2
 simp only [Yc,Bool.and_eq_true,beq_iff_eq] at hw
 have h8:=hw.1.1.2
 simp only [Uz,Bool.and_eq_true] at hc
 have hr:=hc.1.1.1.2
 simp only [Yn,Xq,Bool.and_eq_true,Hh] at hr
 omega
theorem cnt_work : Q4 (Q2 g x).1 ≤ Q4 x + 3:=by
 unfold Q2
 split
 ·exact Nat.le_add_right _ _
 ·have h1:=@step_len1 g x.cells (G1 x)
  have h2:=@step_len2 g x.cells (G1 x)
  simp only [Q4,List.length_drop]
  split <;> simp <;> omega
end
def Ag (n a b : Int) : Int:=if (decide (b < a) || decide (n < a)) = true then a else if b < n then b else n
def allM (g : Graph) : Nat → List Cell → List Record → List Cell × List Record × Nat
 | 0,cs,rs=>(cs,rs,0)
 | m + 1,cs,rs=>if rs.length = 0 then (cs,rs,0) else
  ((allM g m (Xw g cs (List.getD rs 0 default)).1 (rs.drop 1 ++ (Xw g cs (List.getD rs 0 default)).2.1)).1,
  (allM g m (Xw g cs (List.getD rs 0 default)).1 (rs.drop 1 ++ (Xw g cs (List.getD rs 0 default)).2.1)).2.1,
  (allM g m (Xw g cs (List.getD rs 0 default)).1 (rs.drop 1 ++ (Xw g cs (List.getD rs 0 default)).2.1)).2.2 + 1)
def stepAllM (g : Graph) (cs : List Cell) (rs : List Record) (most : Int) : List Cell × List Record × Nat:=allM g (Int.toNat (Ag most 0 100000)) cs rs
section
variable {g : Graph} {cs cs0 : List Cell} {rs rs0 : List Record} {r : Record} {k m : Nat}
end
def G7 (op e k : Int) (y : Cell) : Bool:=Kx y ⟨op,e,k,0⟩
def psiF (b : List Cell) (c : Nat) : Nat:=if (Yk b ((c / 400 : Nat) : Int) ((c / 100 % 4 : Nat) : Int) ((c % 100 : Nat) : Int)).2 = true then Int.toNat (Yk b ((c / 400 : Nat) : Int) ((c / 100 % 4 : Nat) : Int) ((c % 100 : Nat) : Int)).1 else 1000
def Ah (f : Nat → Nat) : Nat → Nat
 | 0=>0
 | n + 1=>Ah f n + f n
def psi (b : List Cell) : Nat:=Ah (psiF b) 3200
theorem psiS_eq {f f' : Nat → Nat} : ∀ n,(∀ c,c < n → f' c = f c) → Ah f' n = Ah f n
 | 0,_=>rfl
 | n + 1,h=>by rw [Ah,Ah,psiS_eq n (fun c hc=>h c (by omega)),h n (by omega)]
theorem psiS_lt {f f' : Nat → Nat} {c0 : Nat} (h0 : f' c0 < f c0) (h : ∀ c,c ≠ c0 → f' c = f c) : ∀ n,c0 < n → Ah f' n < Ah f n
 | 0,hn=>by omega
 | n + 1,hn=>by
  rw [Ah,Ah]
  by_cases e : c0 = n
  ·subst e
   rw [psiS_eq c0 (fun c hc=>h c (by omega))];omega
  ·have:=psiS_lt h0 h n (by omega)
   rw [h n (by omega)];omega
section
variable {xs : List Cell} {x : Cell} {op e k n : Int} {s : Bool}
theorem Vb : ∀ (xs : List Cell) (n : Int) (s : Bool),Kj op e k xs n s = Kj op e k (xs.filter (G7 op e k)) n s
 | [],_,_=>rfl
 | x :: xs,n,s=>by
  rw [Kj]
  by_cases h : G7 op e k x = true
  ·rw [List.filter_cons_of_pos h,Kj,← Vb xs,← Vb xs]
  ·rw [List.filter_cons_of_neg h,← Vb xs]
   have h' : Kx x ⟨op,e,k,0⟩ = false:=Bool.eq_false_iff.2 h
   rw [h'];simp
theorem Gi (xs : List Cell) : Yk xs op e k = Kj op e k (xs.filter (G7 op e k)) 0 false:=Vb xs 0 false
theorem slot_iff {x y : Cell} : Kx x y = true ↔ x.op = y.op ∧ x.epoch = y.epoch ∧ x.key = y.key:=by
 simp [Kx,and_assoc]
theorem H2 (h : (Xe xs x).2 = true) : Yk (Xe xs x).1 x.op x.epoch x.key = (x.val,true):=by
 have hc : ((Yk xs x.op x.epoch x.key).2 && decide ((Yk xs x.op x.epoch x.key).1 ≤ x.val)) = false:=by
  cases hq : ((Yk xs x.op x.epoch x.key).2 && decide ((Yk xs x.op x.epoch x.key).1 ≤ x.val))
  ·rfl
  ·rw [Ua hq] at h;cases h
 rw [Vl hc]
 have hx : Kx x x = true:=slot_iff.2 ⟨rfl,rfl,rfl⟩
 have hn : x ∉ xs.filter (fun y=>!(Kx x y)):=fun hm=>by
  have:=(List.mem_filter.1 hm).2
  rw [hx] at this;cases this
 have hz : (xs.filter (fun y=>!(Kx x y))).filter (G7 x.op x.epoch x.key) = []:=by
  rw [List.filter_filter,List.filter_eq_nil_iff]
  intro y _ hy
  simp only [Bool.and_eq_true,Bool.not_eq_true'] at hy
  have h1:=slot_iff.1 (show Kx y ⟨x.op,x.epoch,x.key,0⟩ = true from hy.1)
  rw [show Kx x y = true from slot_iff.2 ⟨h1.1.symm,h1.2.1.symm,h1.2.2.symm⟩] at hy
  cases hy.2
 have hs : G7 x.op x.epoch x.key x = true:=slot_iff.2 ⟨rfl,rfl,rfl⟩
 rw [Gi,Gw,if_neg hn]
 generalize hl : xs.filter (fun y=>!(Kx x y)) = l at hz
 have ha : (l.take (U4 l x)).filter (G7 x.op x.epoch x.key) = []:=by
  rw [List.filter_eq_nil_iff] at hz ⊢;exact fun y hy=>hz y (List.mem_of_mem_take hy)
 have hb : (l.drop (U4 l x)).filter (G7 x.op x.epoch x.key) = []:=by
  rw [List.filter_eq_nil_iff] at hz ⊢;exact fun y hy=>hz y (List.mem_of_mem_drop hy)
 simp only [Ce,List.filter_append,List.filter_cons,ha,hb,hs,if_true,List.nil_append]
 have hs' : Kx x ⟨x.op,x.epoch,x.key,0⟩ = true:=hs
 simp [Kj,hs']
theorem Tl (h : ¬ (op = x.op ∧ e = x.epoch ∧ k = x.key)) : Yk (Xe xs x).1 op e k = Yk xs op e k:=by
 unfold Xe
 split
 ·rfl
 ·have hf : (xs.filter (fun y=>!(Kx x y))).filter (G7 op e k) = xs.filter (G7 op e k):=by
   rw [List.filter_filter]
   refine List.filter_congr fun y _=>?_
   cases hy : G7 op e k y with
   | false=>simp
   | true =>
    have h1:=slot_iff.1 (show Kx y ⟨op,e,k,0⟩ = true from hy)
    have h2 : Kx x y = false:=Bool.eq_false_iff.2 fun hq=>h (by
     have h3:=slot_iff.1 hq
     exact ⟨(h3.1.trans h1.1).symm,(h3.2.1.trans h1.2.1).symm,(h3.2.2.trans h1.2.2).symm⟩)
    rw [h2];rfl
  have hs : G7 op e k x = false:=Bool.eq_false_iff.2 fun hq=>by
   have h1:=slot_iff.1 (show Kx x ⟨op,e,k,0⟩ = true from hq)
   exact h ⟨h1.1.symm,h1.2.1.symm,h1.2.2.symm⟩
  rw [Gi,Gi xs]
  congr 1
  unfold Gw
  split
  ·exact hf
  ·rw [← hf]
   generalize xs.filter (fun y=>!(Kx x y)) = l
   simp only [Ce,List.filter_append,List.filter_cons,hs]
   simp only [Bool.false_eq_true,if_false]
   rw [← List.filter_append,List.take_append_drop]
theorem psi_better (h : (Xe xs x).2 = true) (ho : 0 ≤ x.op ∧ x.op < 8) (he : 0 ≤ x.epoch ∧ x.epoch ≤ 3) (hk : 0 ≤ x.key ∧ x.key ≤ 99) (hv : 0 ≤ x.val ∧ x.val ≤ 999) : psi (Xe xs x).1 < psi xs:=by
 have hc : ((Yk xs x.op x.epoch x.key).2 && decide ((Yk xs x.op x.epoch x.key).1 ≤ x.val)) = false:=by
  cases hq : ((Yk xs x.op x.epoch x.key).2 && decide ((Yk xs x.op x.epoch x.key).1 ≤ x.val))
  ·rfl
  ·rw [Ua hq] at h;cases h
 refine psiS_lt (c0:=Int.toNat (x.op * 400 + x.epoch * 100 + x.key)) ?_ (fun c hn=>?_) 3200 (by omega)
 ·have e1 : ((Int.toNat (x.op * 400 + x.epoch * 100 + x.key) / 400 : Nat) : Int) = x.op:=by omega
  have e2 : ((Int.toNat (x.op * 400 + x.epoch * 100 + x.key) / 100 % 4 : Nat) : Int) = x.epoch:=by omega
  have e3 : ((Int.toNat (x.op * 400 + x.epoch * 100 + x.key) % 100 : Nat) : Int) = x.key:=by omega
  unfold psiF
  rw [e1,e2,e3,H2 h,if_pos rfl]
  split
  ·rename_i hf
   rw [hf,Bool.true_and,decide_eq_false_iff_not] at hc
   simp only [];omega
  ·simp only [];omega
 ·have hne : ¬ (((c / 400 : Nat) : Int) = x.op ∧ ((c / 100 % 4 : Nat) : Int) = x.epoch ∧ ((c % 100 : Nat) : Int) = x.key):=fun hq=>hn (by omega)
  unfold psiF
  rw [Tl hne]
end
theorem fix_step (g : Graph) (b : List Cell) (x : Cell) : (psi (Xf g b x).1 + 1 ≤ psi b ∧ (Xf g b x).1.length ≤ b.length + 1 ∧ (Xf g b x).2.length ≤ 2) ∨ (Xf g b x = (b,[])):=by
 have h1:=@improve_len1 g b x
 have h2:=@improve_len2 g b x
 by_cases hb : Uu g x = true
 ·exact .inr (imp_0 hb)
 ·have hq:=imp_of (Bool.eq_false_iff.2 hb)
  have hop:=Ue hq.2
  have hl:=gok_len hq.1
  have hb':=Bool.eq_false_iff.2 hb
  simp only [Uu,Y0,Bool.or_eq_false_iff,Bool.not_eq_false',Bool.and_eq_true,decide_eq_true_eq] at hb'
  by_cases hc : (Xe b x).2 = true
  ·refine .inl ⟨?_,h1,h2⟩
   have:=psi_better hc (by omega) (by omega) (by omega) (by omega)
   rw [Xf,if_neg hb]
   split <;> exact this
  ·have hc':=Bool.eq_false_iff.2 hc
   exact .inr (by rw [Xf,if_neg hb,if_pos (by rw [hc'];rfl),Aw hc'])
def fixGo (g : Graph) (b l : List Cell) : List Cell :=
 match l with
 | []=>b
 | x :: l=>fixGo g (Xf g b x).1 (l ++ (Xf g b x).2)
termination_by 3 * psi b + l.length
decreasing_by
 rcases fix_step g b x with h | h
 ·simp only [List.length_append,List.length_cons];omega
 ·rw [h];simp only [List.append_nil,List.length_cons];omega
def fixIn (e : Int) (rs : List Record) : List Cell:=(rs.filter (fun r=>ofE e r && Yn r)).map fun r=>⟨0,e,r.key,r.val⟩
def fixM (g : Graph) (e : Int) (rs : List Record) : List Cell:=fixGo g [] (fixIn e rs)
def fixT (e : Int) (p : Record → Bool) (rs : List Record) (k : Nat) : List Cell:=((rs.take k).filter p).map fun r=>⟨0,e,r.key,r.val⟩
section
variable {g : Graph} {b l : List Cell} {x : Cell} {e : Int} {rs : List Record} {p : Record → Bool} {k : Nat}
end
def inpTo (x : Cluster) (e : Int) (k : Nat) : List Record:=(x.workers.take k).flatMap fun w=>w.inputs.filter (ofE e)
def Hm (k w : Int) : Int:=if w < 1 then 0 else if Int.tmod k w < 0 then Int.tmod k w + w else Int.tmod k w
def linkNew (c : Int) : Link:=⟨Ag c 1 4,[],Ag c 1 4,0,0,0⟩
def sendM (l : Link) (r : Record) : Link × Bool :=
 if linkOk l = true ∧ Yn r = true ∧ l.credits ≠ 0 ∧ l.sent ≠ 1000000000 then (⟨l.cap,l.queue ++ [r],IntKind.i64.wrap (l.credits - 1),l.back,IntKind.i64.wrap (l.sent + 1),l.got⟩,true) else (l,false)
def H8 (l : Link) : Link × Record × Bool :=
 if linkOk l = true ∧ 0 < l.queue.length then (⟨l.cap,l.queue.drop 1,l.credits,IntKind.i64.wrap (l.back + 1),l.sent,IntKind.i64.wrap (l.got + 1)⟩,List.getD l.queue 0 default,true) else (l,⟨0,⟨0,0⟩,0,0⟩,false)
def Ck (l : Link) : Link × Bool :=
 if linkOk l = true ∧ l.back ≠ 0 then (⟨l.cap,l.queue,IntKind.i64.wrap (l.credits + 1),IntKind.i64.wrap (l.back - 1),l.sent,l.got⟩,true) else (l,false)
section
variable {l : Link} {r : Record}
end
def hasW (x : Cluster) (w : Int) : Bool:=clOk x && Y0 w 0 (IntKind.i64.wrap (((x.workers.length : Nat) : Int) - 1))
def V1 (x : Cluster) (a b : Int) : Int:=if ((!(clOk x)) || (a == b)) = true then -1 else Vp x.graph a b
def Tn (x : Cluster) (w : Int) : Worker:=List.getD x.workers (Int.toNat w) default
def lAt (x : Cluster) (k : Int) : Link:=List.getD x.links (Int.toNat k) default
def Xc (x : Cluster) (w : Int) (y : Worker) : Cluster:={ x with workers:=x.workers.set (Int.toNat w) y }
def Yp (x : Cluster) (k : Int) (y : Link) : Cluster:={ x with links:=x.links.set (Int.toNat k) y }
def pickInput (x : Cluster) (w : Int) : Cluster × Bool:=if hasW x w = true then (Xc x w (Yd x.graph (Tn x w)).1,(Yd x.graph (Tn x w)).2) else (x,false)
def pickWork (x : Cluster) (w : Int) : Cluster × Bool:=if hasW x w = true then (Xc x w (Q2 x.graph (Tn x w)).1,(Q2 x.graph (Tn x w)).2) else (x,false)
def pickCredit (x : Cluster) (a b : Int) : Cluster × Bool:=if V1 x a b < 0 then (x,false) else (Yp x (V1 x a b) (Ck (lAt x (V1 x a b))).1,(Ck (lAt x (V1 x a b))).2)
def pickTake (x : Cluster) (a b : Int) : Cluster × Bool:=if V1 x a b < 0 then (x,false) else
 if (H8 (lAt x (V1 x a b))).2.2 = true then (Xc (Yp x (V1 x a b) (H8 (lAt x (V1 x a b))).1) b (Ut (Tn x b) (H8 (lAt x (V1 x a b))).2.1),true) else (x,false)
def mvR (x : Cluster) (w : Int) : Record:=(Xa (Tn x w)).2.1
def mvO (x : Cluster) (w : Int) : Int:=Hm (mvR x w).key x.graph.workers
def mvS (x : Cluster) (w : Int) : Link × Bool:=sendM (lAt x (Vp x.graph w (mvO x w))) (mvR x w)
def pickMove (x : Cluster) (w : Int) : Cluster × Bool:=if hasW x w = true ∧ 0 < (Tn x w).staged.length then
 if mvO x w = w then (Xc x w (Yz (Xa (Tn x w)).1 (mvR x w)),true) else
 if (mvS x w).2 = true then (Xc (Yp x (Vp x.graph w (mvO x w)) (mvS x w).1) w (Ga (Xa (Tn x w)).1 (mvR x w).stamp.epoch),true) else (x,false) else (x,false)
section
variable {x : Cluster} {a b w : Int}
end
def runBad (x : Cluster) (ok : Bool) (a b : Int) : Bool:=((!ok) || (decide (Vp x.graph a b < 0))) || (a == b)
def runCredit (x : Cluster) (ok : Bool) (a b : Int) : Cluster × Bool:=if runBad x ok a b = true then (x,false) else (Yp x (Vp x.graph a b) (Ck (lAt x (Vp x.graph a b))).1,(Ck (lAt x (Vp x.graph a b))).2)
section
variable {x : Cluster} {ok : Bool} {a b : Int}
end
def runHas (x : Cluster) (ok : Bool) (w : Int) : Bool:=ok && Y0 w 0 (IntKind.i64.wrap (((x.workers.length : Nat) : Int) - 1))
def inBad (y : Worker) : Bool:=((decide (((y.staged.length : Nat) : Int) > 0)) || (decide (((y.queue.length : Nat) : Int) > 0))) || (((y.inputs.length : Nat) : Int) == 0)
def runInput (x : Cluster) (ok : Bool) (w : Int) : Cluster × Bool:=if runHas x ok w = true ∧ inBad (Tn x w) = false then
 (Xc x w ⟨[List.getD (Tn x w).inputs 0 default],(Tn x w).staged,(Tn x w).inputs.drop 1,(Tn x w).cells,(Tn x w).sums,(Tn x w).black,(Tn x w).caps,(Tn x w).dones⟩,true) else (x,false)
section
variable {x : Cluster} {ok : Bool} {w : Int}
variable (hw : clOk x = true ∧ 0 ≤ w ∧ w < ((x.workers.length : Nat) : Int) ∧ Int.toNat w < x.workers.length)
end
def sumY (y : Worker) (e n : Int) : Worker:=⟨y.queue,y.staged,y.inputs,y.cells,y.sums.set (Int.toNat e) (IntKind.i64.wrap (List.getD y.sums (Int.toNat e) default + n)),y.black,y.caps,y.dones⟩
def sumOk (y : Worker) (e n : Int) : Bool:=Y0 (IntKind.i64.wrap (List.getD y.sums (Int.toNat e) default + n)) (-1000000) 1000000
section
variable {x : Cluster} {p e n : Int}
end
def takeY (y : Worker) (r : Record) : Worker:=⟨y.queue ++ [r],y.staged,y.inputs,y.cells,y.sums,y.black.set (Int.toNat r.stamp.epoch) true,y.caps,y.dones⟩
def runTake (x : Cluster) (ok : Bool) (a b : Int) : Cluster × Bool × Bool:=if runBad x ok a b = true then (x,false,ok) else
 if (H8 (lAt x (Vp x.graph a b))).2.2 = false then (x,false,ok) else
 (Xc (Yp x (Vp x.graph a b) (H8 (lAt x (Vp x.graph a b))).1) b (sumY (takeY (Tn x b) (H8 (lAt x (Vp x.graph a b))).2.1) (H8 (lAt x (Vp x.graph a b))).2.1.stamp.epoch (-1)),true,
  ok && sumOk (takeY (Tn x b) (H8 (lAt x (Vp x.graph a b))).2.1) (H8 (lAt x (Vp x.graph a b))).2.1.stamp.epoch (-1))
section
variable {x : Cluster} {ok : Bool} {a b : Int}
end
def wkBad (y : Worker) : Bool:=(decide (((y.staged.length : Nat) : Int) > 0)) || (((y.queue.length : Nat) : Int) == 0)
def wkY (g : Graph) (y : Worker) : Worker:=⟨y.queue.drop 1,(Xw g y.cells (G1 y)).2.1,y.inputs,(Xw g y.cells (G1 y)).1,y.sums,y.black,if Uz g (G1 y) = true then y.caps.set (Int.toNat (G1 y).stamp.epoch) true else y.caps,y.dones⟩
def runWork (x : Cluster) (ok : Bool) (w : Int) : Cluster × Bool:=if runHas x ok w = true ∧ wkBad (Tn x w) = false then (Xc x w (wkY x.graph (Tn x w)),true) else (x,false)
section
variable {x : Cluster} {ok : Bool} {w : Int}
variable (hw : clOk x = true ∧ 0 ≤ w ∧ w < ((x.workers.length : Nat) : Int) ∧ Int.toNat w < x.workers.length)
end
section
variable {x : Cluster} {a b : Int}
end
section
variable {x : Cluster} {p k : Int}
end
section
variable {x : Cluster} {p : Int} (hw : clOk x = true ∧ 0 ≤ p ∧ p < ((x.workers.length : Nat) : Int) ∧ Int.toNat p < x.workers.length) (h1 : hasW x p = true ∧ 0 < (Tn x p).staged.length)
include h1
variable (hl : Int.toNat (Vp x.graph p (Hm ((Xa (x.workers[Int.toNat p]'hw.2.2.2)).2.1).key x.graph.workers)) < x.links.length)
end
def smR (x : Cluster) (p : Int) : Record:=List.getD (Tn x p).staged 0 default
def smK (x : Cluster) (p : Int) : Int:=Vp x.graph p (Hm (smR x p).key x.graph.workers)
def dropS (y : Worker) : Worker:=⟨y.queue,y.staged.drop 1,y.inputs,y.cells,y.sums,y.black,y.caps,y.dones⟩
def runMove (x : Cluster) (ok : Bool) (p : Int) : Cluster × Bool × Bool:=if runHas x ok p = true ∧ 0 < (Tn x p).staged.length then
 if Hm (smR x p).key x.graph.workers = p then (Xc x p (dropS (Yz (Tn x p) (smR x p))),true,ok) else
 if (sendM (lAt x (smK x p)) (smR x p)).2 = true then (Xc (Yp x (smK x p) (sendM (lAt x (smK x p)) (smR x p)).1) p (dropS (sumY (Tn x p) (smR x p).stamp.epoch 1)),true,ok && sumOk (Tn x p) (smR x p).stamp.epoch 1) else (x,false,ok)
 else (x,false,ok)
section
variable {x : Cluster} {ok : Bool} {p : Int}
variable (hw : clOk x = true ∧ 0 ≤ p ∧ p < ((x.workers.length : Nat) : Int) ∧ Int.toNat p < x.workers.length) (h0 : 0 < (x.workers[Int.toNat p]'hw.2.2.2).staged.length)
variable (h1 : ((!(ok && Y0 p 0 (IntKind.i64.wrap (((x.workers.length : Nat) : Int) - 1)))) || (((((List.getD x.workers (Int.toNat p) default).staged).length : Nat) : Int) == 0)) = false)
include h1
variable (hl : Int.toNat (Vp x.graph p (Hm ((x.workers[Int.toNat p]'hw.2.2.2).staged[0]'h0).key x.graph.workers)) < x.links.length)
end
section
variable {x : Cluster} {p : Int}
end
def mineP (n w : Int) (r : Record) : Bool:=Hm r.key n == w
def bothP (e n w : Int) (r : Record) : Bool:=ofE e r && mineP n w r
def ownTo (n w : Int) (xs : List Record) : Nat → List Record
 | 0=>[]
 | e + 1=>ownTo n w xs e ++ (xs.filter (ofE ((e : Nat) : Int))).filter (mineP n w)
def recBad (r : Record) : Bool:=(!(Yn r) || r.op != 0) || r.stamp.turn != 0
def newWs (g : Graph) (xs : List Record) (k : Nat) : List Worker:=(List.range k).map fun i=>Yi (ownTo g.workers ((i : Nat) : Int) xs 4)
def clZero : Cluster:=⟨⟨[],0,0⟩,[],[],[],[]⟩
def newCl (g : Graph) (xs : List Record) : Cluster:=⟨g,newWs g xs (Int.toNat g.workers),List.replicate (Int.toNat g.workers * Int.toNat g.workers) (linkNew g.cap),[⟨false,0,0,false,false⟩,⟨false,0,0,false,false⟩,⟨false,0,0,false,false⟩,⟨false,0,0,false,false⟩],[]⟩
def clusterNew (g : Graph) (xs : List Record) : Cluster × Bool:=if ((!(Yf g)) || decide (20 < ((xs.length : Nat) : Int))) = true then (clZero,false) else if xs.any recBad = true then (clZero,false) else (newCl g xs,true)
theorem lex_lt {x y c : Int} : (if Xr x y = 0 then c else Xr x y) < 0 ↔ x < y ∨ x = y ∧ c < 0:=by
 unfold Xr
 by_cases h : x < y
 ·simp [h]
 ·by_cases h2 : y < x
  ·simp [h,h2];omega
  ·simp [h,h2];omega
theorem V7 {a b : Cell} : Xm (a,b) = true ↔ a.epoch < b.epoch ∨ a.epoch = b.epoch ∧ (a.op < b.op ∨ a.op = b.op ∧ (a.key < b.key ∨ a.key = b.key ∧ a.val < b.val)):=by
 have h0 : Xm (a,b) = true ↔ X4 a b < 0:=by unfold Xm;simp
 rw [h0]
 unfold X4
 simp only [Uw,lex_lt]
 omega
theorem Tc {a b : Cell} : Gc a b = Xm (b,a):=by
 unfold Gc Xm
 rw [Bool.eq_iff_iff];simp
theorem adj_pair : ∀ {xs : List Cell},(Gg xs).all Xm = true ↔ xs.Pairwise (fun a b=>Xm (a,b) = true)
 | []=>by simp [Gg]
 | [x]=>by simp [Gg]
 | x :: y :: l=>by
  have ih:=@adj_pair (y :: l)
  simp only [Gg,List.all_cons,Bool.and_eq_true,ih,List.pairwise_cons (a:=x)]
  constructor
  ·rintro ⟨h1,h2⟩
   refine ⟨fun z hz=>?_,h2⟩
   rcases List.mem_cons.1 hz with rfl | hz
   ·exact h1
   ·have h3:=(List.pairwise_cons.1 h2).1 z hz
    rw [V7] at *;omega
  ·exact fun h=>⟨h.1 y (by simp),h.2⟩
theorem Al {xs : List Cell} {x : Cell} (h : xs.Pairwise (fun a b=>Xm (a,b) = true)) : (Gw xs x).Pairwise (fun a b=>Xm (a,b) = true):=by
 unfold Gw;split
 ·exact h
 rename_i hx
 have h1 : ∀ y ∈ xs.take (U4 xs x),Xm (y,x) = true:=fun y hy=>by
  obtain ⟨j,hj,rfl⟩:=List.mem_take_iff_getElem.1 hy
  have:=List.not_of_lt_findIdx (p:=fun y=>!(Gc x y)) (xs:=xs) (i:=j) (by unfold U4 at hj;omega)
  rw [← Tc];simpa using this
 have h2 : ∀ y ∈ xs.drop (U4 xs x),Xm (x,y) = true:=fun y hy=>by
  have hk : U4 xs x < xs.length:=by
   rcases Nat.lt_or_ge (U4 xs x) xs.length with h | h
   ·exact h
   ·rw [List.drop_of_length_le h] at hy;cases hy
  have h3 : Gc x xs[U4 xs x] = false:=by
   have h : (!(Gc x xs[U4 xs x])) = true:=List.findIdx_getElem (xs:=xs) (p:=fun y=>!(Gc x y)) (w:=hk)
   simpa using h
  rw [Tc] at h3
  have h4 : Xm (x,xs[U4 xs x]) = true:=by
   have hne : x ≠ xs[U4 xs x]:=fun e=>hx (e ▸ List.getElem_mem hk)
   have hne2 : ¬ (x.op = xs[U4 xs x].op ∧ x.epoch = xs[U4 xs x].epoch ∧ x.key = xs[U4 xs x].key ∧ x.val = xs[U4 xs x].val):=fun e=>hne (by
    cases x;generalize xs[U4 xs _] = q at e;cases q;simpa using e)
   rw [← Bool.not_eq_true,V7] at h3
   rw [V7];omega
  rw [List.drop_eq_getElem_cons hk] at hy
  rcases List.mem_cons.1 hy with rfl | hy
  ·exact h4
  ·have hp : (xs.drop (U4 xs x)).Pairwise (fun a b=>Xm (a,b) = true):=h.sublist (List.drop_sublist _ _)
   rw [List.drop_eq_getElem_cons hk] at hp
   have h5:=(List.pairwise_cons.1 hp).1 y hy
   rw [V7] at *;omega
 unfold Ce
 rw [List.pairwise_append,List.pairwise_cons]
 refine ⟨h.sublist (List.take_sublist _ _),⟨h2,h.sublist (List.drop_sublist _ _)⟩,fun a ha b hb=>?_⟩
 rcases List.mem_cons.1 hb with rfl | hb
 ·exact h1 a ha
 ·have q1:=h1 a ha;have q2:=h2 b hb
  rw [V7] at *;omega
theorem recallM_adj {kind : Int} {xs : List Cell} {x : Cell} (h : (Gg xs).all Xm = true) : (Gg (X1 kind xs x).1).all Xm = true:=by
 rw [adj_pair] at *
 unfold X1 Xe
 split
 ·split
  ·exact h
  ·exact Al (h.sublist (List.filter_sublist))
 ·split
  ·exact Al h
  ·exact h
theorem better_again (xs : List Cell) (x : Cell) : Xe (Xe xs x).1 x = ((Xe xs x).1,false) ∧ (Yk (Xe xs x).1 x.op x.epoch x.key).2 = true ∧ (Yk (Xe xs x).1 x.op x.epoch x.key).1 ≤ x.val:=by
 cases hq : ((Yk xs x.op x.epoch x.key).2 && decide ((Yk xs x.op x.epoch x.key).1 ≤ x.val))
 ·have h:=H2 (xs:=xs) (x:=x) (by rw [Vl hq])
  refine ⟨Ua (by rw [h];simp),by rw [h],by rw [h];exact Int.le_refl _⟩
 ·rw [Ua hq]
  simp only [Bool.and_eq_true,decide_eq_true_eq] at hq
  exact ⟨Ua (by simpa using hq),hq.1,hq.2⟩
def smG (g : Graph) : Prop:=g.nodes.length ≤ 9 ∧ ∀ y ∈ g.nodes,y.outs.length ≤ 3
theorem As : ∀ {xs : List Node},(∀ y ∈ xs,y.outs.length ≤ 3) → cntL Tk xs ≤ 4 * xs.length
 | [],_=>by simp [cntL]
 | y :: xs,hx=>by
  have h1:=As fun z hz=>hx z (List.mem_cons_of_mem y hz)
  have h2:=hx y (by simp)
  simp only [cntL,List.length_cons,List.map_cons,List.sum_cons,Tk] at *
  omega
theorem smG_cnt {g : Graph} (h : smG g) : Uq g ≤ 1048576:=by
 have h1:=As h.2
 have h2:=h.1
 unfold Uq
 omega
def outsI (g : Graph) (a : Int) : List Int:=(List.getD g.nodes (Int.toNat a) default).outs
inductive Pth (g : Graph) : Int → Int → Prop
 | one {a b : Int} : b ∈ outsI g a → Pth g a b
 | step {a b c : Int} : Pth g a b → c ∈ outsI g b → Pth g a c
def nodeI (g : Graph) (a : Int) : Prop:=0 ≤ a ∧ a < ((g.nodes.length : Nat) : Int)
section
variable {g : Graph} {a b c x : Int} {f os : List Int} {n i k : Nat}
def backAt (g : Graph) (i : Nat) : Bool:=((List.getD g.nodes i default).kind == 7) && decide (0 < (((List.getD g.nodes i default).outs.length : Nat) : Int))
def gateAt (g : Graph) (k m : Nat) : Bool:=(((List.getD g.nodes m default).kind == 5) || ((List.getD g.nodes m default).kind == 6)) && ((((m : Nat) : Int) == ((k : Nat) : Int)) || (reaches g ((k : Nat) : Int) ((m : Nat) : Int) && reaches g ((m : Nat) : Int) ((k : Nat) : Int)))
def loopG : Graph:=⟨[⟨1,0,0,[1]⟩,⟨5,0,0,[2]⟩,⟨7,0,0,[1]⟩],1,1⟩
end
section
variable {g : Graph} {cs : List Cell} {r q : Record} {x : Node} {a b : Int}
theorem C6 (hn : Y9 x = true) (ha : Y0 a 0 99 = true) (hb : Y0 b 0 999 = true) : Y0 (Qm x a b).1 0 99 = true ∧ Y0 (Qm x a b).2.1 0 999 = true:=by
 have h : (!(Y9 x) || !(Y0 a 0 99 && Y0 b 0 999)) = false:=by rw [hn,ha,hb];rfl
 have ha':=Hh.1 ha
 have hb':=Hh.1 hb
 have hk : Uj x = true:=by simp only [Y9,Bool.and_eq_true] at hn;exact hn.1.1
 cases h2 : (x.kind == 2) with
 | true =>
  rw [ch_2 h h2]
  rw [node_2 h2,Bool.and_eq_true] at hk
  have:=Hh.1 hk.1
  refine ⟨ha,Hh.2 ?_⟩
  dsimp only
  rw [Xx (by omega) (by omega)]
  split <;> omega
 | false =>
  cases h4 : (x.kind == 4) with
  | true =>
   rw [ch_4 h h4]
   rw [node_4 h4,Bool.and_eq_true] at hk
   have:=Hh.1 hk.1
   refine ⟨Hh.2 ?_,hb⟩
   dsimp only
   rw [Xx (by omega) (by omega),Int.tmod_eq_emod_of_nonneg (by omega)]
   omega
  | false =>
   cases h3 : (x.kind == 3) with
   | true=>rw [ch_3 h h3];exact ⟨ha,hb⟩
   | false=>rw [ch_o h h2 h4 h3];exact ⟨ha,hb⟩
theorem step_bad (h : q ∈ (Xw g cs r).2.1) : V9 g r = false ∧ (K3 g r).2 = true ∧ q ∈ stTo g r (K3 g r).1 (Km g r).outs.length:=by
 cases hb : V9 g r with
 | true=>rw [st_0 hb] at h;cases h
 | false =>
  refine ⟨rfl,?_⟩
  rw [Xw,if_neg (Hw hb)] at h
  split at h
  ·cases h
  ·split at h
   ·cases h
   ·dsimp only at h
    split at h
    ·rename_i hs;exact ⟨hs,h⟩
    ·cases h
theorem step_out (h : q ∈ (Xw g cs r).2.1) : q.stamp = ⟨r.stamp.epoch,IntKind.i64.wrap (r.stamp.turn + if ((Km g r).kind == 7) = true then 1 else 0)⟩ ∧ Yn q = true:=by
 obtain ⟨hb,hs,hq⟩:=step_bad h
 have hst:=hb
 simp only [V9,Bool.or_eq_false_iff,Bool.not_eq_false'] at hst
 obtain ⟨⟨hg,hr⟩,hn⟩:=hst
 have hi:=Ue hn
 have hr':=hr
 simp only [Yn,Bool.and_eq_true] at hr'
 have hso : Xq r.stamp = true:=hr'.1.2
 have hs2:=hso
 simp only [Xq,Bool.and_eq_true] at hs2
 have h1:=Hh.1 hs2.1
 have h2:=Hh.1 hs2.2
 have hnd : Kf g (Int.toNat r.op) (Km g r) = true:=by rw [Km,Ka hi.2.2];exact gok_at hg hi.2.2
 simp only [Kf,atOk,Bool.and_eq_true,Bool.not_eq_true',Bool.or_eq_false_iff,Bool.not_eq_false'] at hnd
 have hno:=hnd.1.1
 have hrg:=C6 hno hr'.2.1 hr'.2.2
 have hall : (Km g r).outs.all (Y0 · 0 7) = true:=by simp only [Y9,Bool.and_eq_true] at hno;exact hno.2
 simp only [stTo,List.mem_map,List.take_length] at hq
 obtain ⟨n,hn,rfl⟩:=hq
 have hst : (K3 g r).1 = ⟨r.stamp.epoch,IntKind.i64.wrap (r.stamp.turn + if ((Km g r).kind == 7) = true then 1 else 0)⟩ ∧ Xq (K3 g r).1 = true:=by
  cases hk : ((Km g r).kind == 7) with
  | true =>
   rw [K3,if_pos hk] at hs ⊢
   rw [Yr] at hs ⊢
   split at hs
   ·cases hs
   ·rename_i hh
    rw [if_neg hh]
    simp only [Bool.or_eq_true,not_or,beq_iff_eq] at hh
    refine ⟨by rw [if_pos rfl,Xx (by omega) (by omega)],?_⟩
    simp only [Xq,Bool.and_eq_true]
    exact ⟨hs2.1,Hh.2 (by have:=hh.2;omega)⟩
  | false =>
   rw [K3,if_neg (Hw hk)]
   refine ⟨?_,hso⟩
   rw [if_neg (by simp),Xx (by omega) (by omega),Int.add_zero]
 refine ⟨hst.1,?_⟩
 simp only [Yn,Bool.and_eq_true]
 exact ⟨⟨List.all_eq_true.1 hall n hn,hst.2⟩,hrg⟩
end
def twoG : Graph:=⟨[⟨1,0,0,[1]⟩,⟨8,0,0,[]⟩],1,1⟩
section
variable {g : Graph} {a b l xs : List Cell} {x y c m : Cell} {e : Int} {rs : List Record}
theorem nw_iff : nwP a x = true ↔ (Yk a x.op x.epoch x.key).2 = true ∧ (Yk a x.op x.epoch x.key).1 ≤ x.val:=by
 simp only [nwP,Bool.not_eq_true',Bool.or_eq_false_iff,Bool.not_eq_false',decide_eq_false_iff_not,Int.not_lt]
theorem better_self (xs : List Cell) (x : Cell) : nwP (Xe xs x).1 x = true:=nw_iff.2 (better_again xs x).2
theorem better_nw (h : nwP xs y = true) : nwP (Xe xs x).1 y = true:=by
 have hy:=nw_iff.1 h
 by_cases hs : y.op = x.op ∧ y.epoch = x.epoch ∧ y.key = x.key
 ·cases hc : (Xe xs x).2 with
  | false=>rw [Aw hc];exact h
  | true =>
   have ho:=H2 hc
   have hf : ((Yk xs x.op x.epoch x.key).2 && decide ((Yk xs x.op x.epoch x.key).1 ≤ x.val)) = false:=by
    cases hq : ((Yk xs x.op x.epoch x.key).2 && decide ((Yk xs x.op x.epoch x.key).1 ≤ x.val))
    ·rfl
    ·rw [Ua hq] at hc;cases hc
   rw [hs.1,hs.2.1,hs.2.2] at hy
   rw [hy.1,Bool.true_and,decide_eq_false_iff_not] at hf
   refine nw_iff.2 ?_
   rw [hs.1,hs.2.1,hs.2.2,ho]
   refine ⟨rfl,?_⟩
   have:=hy.2
   dsimp only;omega
 ·refine nw_iff.2 ?_
  rw [Tl hs];exact hy
theorem T0 : (Xf g b x).1 = if Uu g x = true then b else (Xe b x).1:=by
 unfold Xf
 split
 ·rfl
 ·split <;> rfl
theorem improve_nw (h : nwP b y = true) : nwP (Xf g b x).1 y = true:=by
 rw [T0];split
 ·exact h
 ·exact better_nw h
theorem improve_self (h : Uu g x = false) : nwP (Xf g b x).1 x = true:=by
 rw [T0,if_neg (Hw h)];exact better_self b x
theorem putM_sub (h : c ∈ Gw l x) : c ∈ l ∨ c = x:=by
 unfold Gw at h
 split at h
 ·exact .inl h
 ·unfold Ce at h
  simp only [List.mem_append,List.mem_cons] at h
  rcases h with h | h | h
  ·exact .inl (List.mem_of_mem_take h)
  ·exact .inr h
  ·exact .inl (List.mem_of_mem_drop h)
theorem better_sub (h : c ∈ (Xe b x).1) : c ∈ b ∨ (c = x ∧ (Xe b x).2 = true):=by
 unfold Xe at h ⊢
 split at h
 ·exact .inl h
 ·rename_i hn
  rcases putM_sub h with h | h
  ·exact .inl (List.mem_filter.1 h).1
  ·rw [if_neg hn];exact .inr ⟨h,rfl⟩
theorem Tg (hb : Uu g x = false) (h : (Xe b x).2 = true) : (Xf g b x).2 = (Xf g [] x).2:=by
 have h0 : (Xe [] x).2 = true:=by rw [Vl (by simp [Yk,Kj])]
 unfold Xf
 rw [if_neg (Hw hb),if_neg (Hw hb),h,h0]
 split <;> rfl
theorem more_ok (hb : Uu g x = false) (hm : m ∈ (Xf g [] x).2) : Uu g m = false:=by
 have hq:=imp_of hb
 have hi:=Ue hq.2
 unfold Xf at hm
 rw [if_neg (Hw hb)] at hm
 split at hm
 ·cases hm
 ·have hno : Y9 g.nodes[Int.toNat x.op] = true:=by
   have:=gok_at hq.1 hi.2.2
   simp only [Kf,atOk,Bool.and_eq_true,Bool.not_eq_true',Bool.or_eq_false_iff,Bool.not_eq_false'] at this
   exact this.1.1
  have hb':=hb
  simp only [Uu,Bool.or_eq_false_iff,Bool.not_eq_false',Bool.and_eq_true] at hb'
  have hrg:=C6 hno hb'.2.1 hb'.2.2
  simp only [impTo,List.mem_map,List.take_length] at hm
  obtain ⟨n,hn,rfl⟩:=hm
  rw [Ka hi.2.2] at hn
  have ho:=gok_outs hq.1 hi.2.2 n hn
  have hnn : Xd g n = true:=Hh.2 (by omega)
  simp only [Uu,Bool.or_eq_false_iff,Bool.not_eq_false',Bool.and_eq_true]
  refine ⟨⟨⟨hq.1,hnn⟩,hb'.1.2⟩,?_⟩
  rw [impCh,Ka hi.2.2];exact hrg
def FInv (g : Graph) (b l : List Cell) : Prop:=(∀ c ∈ b,Uu g c = false ∧ ∀ m ∈ (Xf g [] c).2,nwP b m = true ∨ m ∈ l) ∧ ∀ x ∈ l,Uu g x = false
theorem FInv.step (h : FInv g b (x :: l)) : FInv g (Xf g b x).1 (l ++ (Xf g b x).2):=by
 have hx:=h.2 x (by simp)
 have hle : ∀ m ∈ (Xf g b x).2,m ∈ (Xf g [] x).2:=fun m hm=>by
  cases hc : (Xe b x).2 with
  | true=>rw [← Tg hx hc];exact hm
  | false =>
   unfold Xf at hm
   rw [if_neg (Hw hx),hc] at hm
   simp at hm
 refine ⟨fun c hc=>?_,fun y hy=>?_⟩
 ·have old : c ∈ b → Uu g c = false ∧ ∀ m ∈ (Xf g [] c).2,nwP (Xf g b x).1 m = true ∨ m ∈ l ++ (Xf g b x).2:=fun hcb=>by
   refine ⟨(h.1 c hcb).1,fun m hm=>?_⟩
   rcases (h.1 c hcb).2 m hm with h1 | h1
   ·exact .inl (improve_nw h1)
   ·rcases List.mem_cons.1 h1 with rfl | h1
    ·exact .inl (improve_self hx)
    ·exact .inr (List.mem_append.2 (.inl h1))
  rw [T0,if_neg (Hw hx)] at hc
  rcases better_sub hc with hc | ⟨rfl,hc⟩
  ·exact old hc
  ·exact ⟨hx,fun m hm=>.inr (List.mem_append.2 (.inr (by rw [Tg hx hc];exact hm)))⟩
 ·rcases List.mem_append.1 hy with hy | hy
  ·exact h.2 y (by simp [hy])
  ·exact more_ok hx (hle y hy)
def fixQ (e : Int) (r : Record) : Bool:=((r.stamp.epoch == e) && Yn r) && decide (0 ≤ e)
end
section
variable {g : Graph} {x : Worker} {r : Record} {k : Nat}
theorem wl_take (h : Q4 x ≤ 60 + 4 * k) : Q4 (Yd g x).1 ≤ 60 + 4 * (k + 1):=by have:=@cnt_take g x;omega
theorem wl_recv (h : Q4 x ≤ 60 + 4 * k) : Q4 (Ut x r) ≤ 60 + 4 * (k + 1):=by have:=cnt_recv x r;omega
theorem wl_unst (h : Q4 x ≤ 60 + 4 * k) : Q4 (Xa x).1 ≤ 60 + 4 * (k + 1):=by have:=cnt_unst x;omega
theorem wl_work (h : Q4 x ≤ 60 + 4 * k) : Q4 (Q2 g x).1 ≤ 60 + 4 * (k + 1):=by have:=@cnt_work g x;omega
theorem ws_take (h : x.sums.length = 4) : (Yd g x).1.sums.length = 4:=by unfold Yd;split <;> exact h
theorem ws_recv (h : x.sums.length = 4) : (Ut x r).sums.length = 4:=by unfold Ut Yz;split <;> simpa using h
theorem ws_unst (h : x.sums.length = 4) : (Xa x).1.sums.length = 4:=by unfold Xa;split <;> exact h
theorem ws_work (h : x.sums.length = 4) : (Q2 g x).1.sums.length = 4:=by unfold Q2;split <;> exact h
end
def oneG : Graph:=⟨[⟨1,0,0,[]⟩],1,1⟩
section
variable {g : Graph} {x : Worker} {q r : Record} {cs : List Cell}
theorem step_ok (h : q ∈ (Xw g cs r).2.1) : X6 g q = true:=by
 obtain ⟨hb,_,hq⟩:=step_bad h
 have hs:=st_of hb
 have hi:=Ue hs.2
 simp only [stTo,List.mem_map,List.take_length] at hq
 obtain ⟨n,hn,hnq⟩:=hq
 rw [Km,Ka hi.2.2] at hn
 have ho:=gok_outs hs.1 hi.2.2 n hn
 have hn : Xd g q.op = true:=by rw [← hnq];exact Hh.2 (by dsimp only;omega)
 simp only [X6,(step_out h).2,hn];rfl
theorem step_adj (h : (Gg cs).all Xm = true) : (Gg (Xw g cs r).1).all Xm = true:=by
 unfold Xw
 split
 ·exact h
 ·split
  ·exact h
  ·split <;> exact recallM_adj h
theorem work_facts : ((Q2 g x).2 = true → 0 < x.queue.length ∧ (Q2 g x).1.queue = x.queue.drop 1 ∧ Yc g (Q2 g x).1 = true) ∧ ((Q2 g x).2 = false → (Q2 g x).1 = x):=by
 cases hb : Vz g x with
 | true=>rw [work_no hb];exact ⟨(fun h=>by cases h),fun _=>rfl⟩
 | false =>
  have hl:=work_lt hb
  have hb':=hb
  simp only [Vz,Bool.or_eq_false_iff,Bool.not_eq_false'] at hb'
  have hw:=hb'.1.1.2
  rw [Q2,if_neg (Hw hb)]
  refine ⟨fun _=>⟨hl,rfl,?_⟩,fun h=>by cases h⟩
  simp only [Yc,Bool.and_eq_true] at hw ⊢
  obtain ⟨⟨⟨⟨⟨⟨⟨⟨⟨h1,h2⟩,h3⟩,h4⟩,h5⟩,h6⟩,h7⟩,h8⟩,h9⟩,h10⟩:=hw
  refine ⟨⟨⟨⟨⟨⟨⟨⟨⟨?_,?_⟩,h3⟩,step_adj h4⟩,h5⟩,h6⟩,h7⟩,?_⟩,h9⟩,h10⟩
  ·exact List.all_eq_true.2 fun y hy=>List.all_eq_true.1 h1 y (List.mem_of_mem_drop hy)
  ·exact List.all_eq_true.2 fun y hy=>step_ok hy
  ·split
   ·rw [List.length_set];exact h8
   ·exact h8
theorem take_facts2 : (Yd g x).2 = true → x.queue.length = 0 ∧ 0 < x.inputs.length ∧ (Yd g x).1.inputs = x.inputs.drop 1 ∧ (Yd g x).1.queue.length = x.queue.length + 1:=by
 unfold Yd
 split
 ·exact fun h=>by cases h
 ·rename_i hb
  simp only [H9,Bool.or_eq_true,not_or,decide_eq_true_eq,beq_iff_eq] at hb
  exact fun _=>⟨by omega,by omega,rfl,by simp⟩
end
theorem working_fin (g : Graph) (x y : Worker) {r : Record} (hx : Q4 x ≤ 200) (hy : Q4 y ≤ 200) : ((((((!((Q2 g x).2)) || (((((((Q2 g x).1).queue).length : Nat) : Int) == (IntKind.i64.wrap (((x.queue.length : Nat) : Int) - 1))) && (Yc g ((Q2 g x).1)))) && ((!((Yd g x).2)) || (((((((Yd g x).1).inputs).length : Nat) : Int) == (IntKind.i64.wrap (((x.inputs.length : Nat) : Int) - 1))) && ((((((Yd g x).1).queue).length : Nat) : Int) == 1)))) && (((Q2 g x).2) || (decide (((Q2 g x).1) = x)))) && (((((Yz y r).queue).length : Nat) : Int) == (IntKind.i64.wrap (((y.queue.length : Nat) : Int) + 1)))) && (Ky (Yi []))) = true:=by
 have e1 : ((!((Q2 g x).2)) || (((((((Q2 g x).1).queue).length : Nat) : Int) == (IntKind.i64.wrap (((x.queue.length : Nat) : Int) - 1))) && (Yc g ((Q2 g x).1)))) = true:=by
  cases h : (Q2 g x).2 with
  | false=>rfl
  | true =>
   have hf:=work_facts.1 h
   have hc : x.queue.length ≤ 200:=by unfold Q4 at hx;omega
   rw [hf.2.2,hf.2.1,List.length_drop,Xx (by omega) (by omega)]
   simp;omega
 have e2 : ((!((Yd g x).2)) || (((((((Yd g x).1).inputs).length : Nat) : Int) == (IntKind.i64.wrap (((x.inputs.length : Nat) : Int) - 1))) && ((((((Yd g x).1).queue).length : Nat) : Int) == 1))) = true:=by
  cases h : (Yd g x).2 with
  | false=>rfl
  | true =>
   have hf:=take_facts2 h
   have hc : x.inputs.length ≤ 200:=by unfold Q4 at hx;omega
   rw [hf.2.2.1,hf.2.2.2,hf.1,List.length_drop,Xx (by omega) (by omega)]
   simp;omega
 have e3 : (((Q2 g x).2) || (decide (((Q2 g x).1) = x))) = true:=by
  cases h : (Q2 g x).2 with
  | true=>rfl
  | false=>rw [work_facts.2 h];simp
 have e4 : ((((Yz y r).queue).length : Nat) : Int) = IntKind.i64.wrap (((y.queue.length : Nat) : Int) + 1):=by
  have hc : y.queue.length ≤ 200:=by unfold Q4 at hy;omega
  rw [Xx (by omega) (by omega)]
  simp [Yz]
 rw [e1,e2,e3,e4,show Ky (Yi []) = true from rfl]
 simp
end Go.Proofs.YteljajfcppmeiaaGreat
