/- The plain functions on lists and numbers that the contracts name, and what holds of them; no condition. -/
import Derived.Test.YteljajfcppmeiaaLib2
namespace Go.Proofs.Yteljajfcppmeiaa
open Go Go.Proofs.Yteljajfcppmeiaa.X
def cntL {α : Type} (f : α → Nat) (xs : List α) : Nat := xs.length + (xs.map f).sum
structure Stamp where
  epoch : Int
  turn : Int
  deriving DecidableEq, Inhabited
instance : Enc Stamp := ⟨fun x => [.int .i64 x.epoch, .int .i64 x.turn], 2, fun _ => rfl, fun _ => rfl, by decide⟩
structure Record where
  op : Int
  stamp : Stamp
  key : Int
  val : Int
  deriving DecidableEq, Inhabited
instance : Enc Record := ⟨fun x => [.int .i64 x.op, .int .i64 x.stamp.epoch, .int .i64 x.stamp.turn, .int .i64 x.key, .int .i64 x.val], 5, fun _ => rfl, fun _ => rfl, by decide⟩
structure Cell where
  op : Int
  epoch : Int
  key : Int
  val : Int
  deriving DecidableEq, Inhabited
instance : Enc Cell := ⟨fun x => [.int .i64 x.op, .int .i64 x.epoch, .int .i64 x.key, .int .i64 x.val], 4, fun _ => rfl, fun _ => rfl, by decide⟩
structure Done where
  epoch : Int
  capped : Bool
  deriving DecidableEq, Inhabited
instance : Enc Done := ⟨fun x => [.int .i64 x.epoch, .bool x.capped], 2, fun _ => rfl, fun _ => rfl, by decide⟩
structure Token where
  going : Bool
  place : Int
  sum : Int
  black : Bool
  capped : Bool
  deriving DecidableEq, Inhabited
instance : Enc Token := ⟨fun x => [.bool x.going, .int .i64 x.place, .int .i64 x.sum, .bool x.black, .bool x.capped], 5, fun _ => rfl, fun _ => rfl, by decide⟩
structure News where
  dest : Int
  epoch : Int
  capped : Bool
  deriving DecidableEq, Inhabited
instance : Enc News := ⟨fun x => [.int .i64 x.dest, .int .i64 x.epoch, .bool x.capped], 3, fun _ => rfl, fun _ => rfl, by decide⟩
structure Count where
  stamp : Stamp
  n : Int
  deriving DecidableEq, Inhabited
instance : Enc Count := ⟨fun x => [.int .i64 x.stamp.epoch, .int .i64 x.stamp.turn, .int .i64 x.n], 3, fun _ => rfl, fun _ => rfl, by decide⟩
structure Node where
  kind : Int
  a : Int
  b : Int
  outs : List Int
  deriving DecidableEq, Inhabited
instance : Dat Node := ⟨4, fun w lo hi cs x => ∃ o1, cs = [.int .i64 x.kind, .int .i64 x.a, .int .i64 x.b, o1] ∧ RdD w lo hi o1 x.outs, by decide, fun h => by obtain ⟨o1, rfl, h1⟩ := h; exact rfl, fun h => by obtain ⟨o1, rfl, h1⟩ := h; exact all_cons rfl (all_cons rfl (all_cons rfl (all_cons (RdD.one h1) (rfl)))), fun h s => by obtain ⟨o1, rfl, h1⟩ := h; exact ⟨o1, rfl, RdD.same h1 s⟩, fun h a b => by obtain ⟨o1, rfl, h1⟩ := h; exact ⟨o1, rfl, RdD.widen h1 a b⟩, fun h => by obtain ⟨o1, rfl, h1⟩ := h; exact ⟨o1, rfl, RdD.any h1⟩⟩
theorem Node.op {w : World} {lo hi : Nat} {cs : List Value} {x : Node} (h : Dat.R w lo hi cs x) : ∃ o1, cs = [.int .i64 x.kind, .int .i64 x.a, .int .i64 x.b, o1] ∧ RdD w lo hi o1 x.outs := h
theorem Node.mkR {w : World} {lo hi : Nat} {o1 : Value} (x : Node) (h1 : RdD w lo hi o1 x.outs) : Dat.R w lo hi [.int .i64 x.kind, .int .i64 x.a, .int .i64 x.b, o1] x := ⟨o1, rfl, h1⟩
def cntNode (x : Node) : Nat := x.outs.length
structure Graph where
  nodes : List Node
  workers : Int
  cap : Int
  deriving DecidableEq, Inhabited
instance : Dat Graph := ⟨3, fun w lo hi cs x => ∃ o1, cs = [o1, .int .i64 x.workers, .int .i64 x.cap] ∧ RdD w lo hi o1 x.nodes, by decide, fun h => by obtain ⟨o1, rfl, h1⟩ := h; exact rfl, fun h => by obtain ⟨o1, rfl, h1⟩ := h; exact all_cons (RdD.one h1) (all_cons rfl (all_cons rfl (rfl))), fun h s => by obtain ⟨o1, rfl, h1⟩ := h; exact ⟨o1, rfl, RdD.same h1 s⟩, fun h a b => by obtain ⟨o1, rfl, h1⟩ := h; exact ⟨o1, rfl, RdD.widen h1 a b⟩, fun h => by obtain ⟨o1, rfl, h1⟩ := h; exact ⟨o1, rfl, RdD.any h1⟩⟩
theorem Graph.op {w : World} {lo hi : Nat} {cs : List Value} {x : Graph} (h : Dat.R w lo hi cs x) : ∃ o1, cs = [o1, .int .i64 x.workers, .int .i64 x.cap] ∧ RdD w lo hi o1 x.nodes := h
theorem Graph.mkR {w : World} {lo hi : Nat} {o1 : Value} (x : Graph) (h1 : RdD w lo hi o1 x.nodes) : Dat.R w lo hi [o1, .int .i64 x.workers, .int .i64 x.cap] x := ⟨o1, rfl, h1⟩
def cntGraph (x : Graph) : Nat := cntL cntNode x.nodes
structure Worker where
  queue : List Record
  staged : List Record
  inputs : List Record
  cells : List Cell
  sums : List Int
  black : List Bool
  caps : List Bool
  dones : List Done
  deriving DecidableEq, Inhabited
instance : Dat Worker := ⟨8, fun w lo hi cs x => ∃ o1 o2 o3 o4 o5 o6 o7 o8, cs = [o1, o2, o3, o4, o5, o6, o7, o8] ∧ RdD w lo hi o1 x.queue ∧ RdD w lo hi o2 x.staged ∧ RdD w lo hi o3 x.inputs ∧ RdD w lo hi o4 x.cells ∧ RdD w lo hi o5 x.sums ∧ RdD w lo hi o6 x.black ∧ RdD w lo hi o7 x.caps ∧ RdD w lo hi o8 x.dones, by decide, fun h => by obtain ⟨o1, o2, o3, o4, o5, o6, o7, o8, rfl, h1, h2, h3, h4, h5, h6, h7, h8⟩ := h; exact rfl, fun h => by obtain ⟨o1, o2, o3, o4, o5, o6, o7, o8, rfl, h1, h2, h3, h4, h5, h6, h7, h8⟩ := h; exact all_cons (RdD.one h1) (all_cons (RdD.one h2) (all_cons (RdD.one h3) (all_cons (RdD.one h4) (all_cons (RdD.one h5) (all_cons (RdD.one h6) (all_cons (RdD.one h7) (all_cons (RdD.one h8) (rfl)))))))), fun h s => by obtain ⟨o1, o2, o3, o4, o5, o6, o7, o8, rfl, h1, h2, h3, h4, h5, h6, h7, h8⟩ := h; exact ⟨o1, o2, o3, o4, o5, o6, o7, o8, rfl, RdD.same h1 s, RdD.same h2 s, RdD.same h3 s, RdD.same h4 s, RdD.same h5 s, RdD.same h6 s, RdD.same h7 s, RdD.same h8 s⟩, fun h a b => by obtain ⟨o1, o2, o3, o4, o5, o6, o7, o8, rfl, h1, h2, h3, h4, h5, h6, h7, h8⟩ := h; exact ⟨o1, o2, o3, o4, o5, o6, o7, o8, rfl, RdD.widen h1 a b, RdD.widen h2 a b, RdD.widen h3 a b, RdD.widen h4 a b, RdD.widen h5 a b, RdD.widen h6 a b, RdD.widen h7 a b, RdD.widen h8 a b⟩, fun h => by obtain ⟨o1, o2, o3, o4, o5, o6, o7, o8, rfl, h1, h2, h3, h4, h5, h6, h7, h8⟩ := h; exact ⟨o1, o2, o3, o4, o5, o6, o7, o8, rfl, RdD.any h1, RdD.any h2, RdD.any h3, RdD.any h4, RdD.any h5, RdD.any h6, RdD.any h7, RdD.any h8⟩⟩
theorem Worker.op {w : World} {lo hi : Nat} {cs : List Value} {x : Worker} (h : Dat.R w lo hi cs x) : ∃ o1 o2 o3 o4 o5 o6 o7 o8, cs = [o1, o2, o3, o4, o5, o6, o7, o8] ∧ RdD w lo hi o1 x.queue ∧ RdD w lo hi o2 x.staged ∧ RdD w lo hi o3 x.inputs ∧ RdD w lo hi o4 x.cells ∧ RdD w lo hi o5 x.sums ∧ RdD w lo hi o6 x.black ∧ RdD w lo hi o7 x.caps ∧ RdD w lo hi o8 x.dones := h
theorem Worker.mkR {w : World} {lo hi : Nat} {o1 o2 o3 o4 o5 o6 o7 o8 : Value} (x : Worker) (h1 : RdD w lo hi o1 x.queue) (h2 : RdD w lo hi o2 x.staged) (h3 : RdD w lo hi o3 x.inputs) (h4 : RdD w lo hi o4 x.cells) (h5 : RdD w lo hi o5 x.sums) (h6 : RdD w lo hi o6 x.black) (h7 : RdD w lo hi o7 x.caps) (h8 : RdD w lo hi o8 x.dones) : Dat.R w lo hi [o1, o2, o3, o4, o5, o6, o7, o8] x := ⟨o1, o2, o3, o4, o5, o6, o7, o8, rfl, h1, h2, h3, h4, h5, h6, h7, h8⟩
def cntWorker (x : Worker) : Nat := x.queue.length + x.staged.length + x.inputs.length + x.cells.length + x.sums.length + x.black.length + x.caps.length + x.dones.length
structure Link where
  cap : Int
  queue : List Record
  credits : Int
  back : Int
  sent : Int
  got : Int
  deriving DecidableEq, Inhabited
instance : Dat Link := ⟨6, fun w lo hi cs x => ∃ o1, cs = [.int .i64 x.cap, o1, .int .i64 x.credits, .int .i64 x.back, .int .i64 x.sent, .int .i64 x.got] ∧ RdD w lo hi o1 x.queue, by decide, fun h => by obtain ⟨o1, rfl, h1⟩ := h; exact rfl, fun h => by obtain ⟨o1, rfl, h1⟩ := h; exact all_cons rfl (all_cons (RdD.one h1) (all_cons rfl (all_cons rfl (all_cons rfl (all_cons rfl (rfl)))))), fun h s => by obtain ⟨o1, rfl, h1⟩ := h; exact ⟨o1, rfl, RdD.same h1 s⟩, fun h a b => by obtain ⟨o1, rfl, h1⟩ := h; exact ⟨o1, rfl, RdD.widen h1 a b⟩, fun h => by obtain ⟨o1, rfl, h1⟩ := h; exact ⟨o1, rfl, RdD.any h1⟩⟩
theorem Link.op {w : World} {lo hi : Nat} {cs : List Value} {x : Link} (h : Dat.R w lo hi cs x) : ∃ o1, cs = [.int .i64 x.cap, o1, .int .i64 x.credits, .int .i64 x.back, .int .i64 x.sent, .int .i64 x.got] ∧ RdD w lo hi o1 x.queue := h
theorem Link.mkR {w : World} {lo hi : Nat} {o1 : Value} (x : Link) (h1 : RdD w lo hi o1 x.queue) : Dat.R w lo hi [.int .i64 x.cap, o1, .int .i64 x.credits, .int .i64 x.back, .int .i64 x.sent, .int .i64 x.got] x := ⟨o1, rfl, h1⟩
def cntLink (x : Link) : Nat := x.queue.length
structure Cluster where
  graph : Graph
  workers : List Worker
  links : List Link
  tokens : List Token
  news : List News
  deriving DecidableEq, Inhabited
instance : Dat Cluster := ⟨7, fun w lo hi cs x => ∃ o1 o2 o3 o4 o5, cs = [o1, .int .i64 x.graph.workers, .int .i64 x.graph.cap, o2, o3, o4, o5] ∧ RdD w lo hi o1 x.graph.nodes ∧ RdD w lo hi o2 x.workers ∧ RdD w lo hi o3 x.links ∧ RdD w lo hi o4 x.tokens ∧ RdD w lo hi o5 x.news, by decide, fun h => by obtain ⟨o1, o2, o3, o4, o5, rfl, h1, h2, h3, h4, h5⟩ := h; exact rfl, fun h => by obtain ⟨o1, o2, o3, o4, o5, rfl, h1, h2, h3, h4, h5⟩ := h; exact all_cons (RdD.one h1) (all_cons rfl (all_cons rfl (all_cons (RdD.one h2) (all_cons (RdD.one h3) (all_cons (RdD.one h4) (all_cons (RdD.one h5) (rfl))))))), fun h s => by obtain ⟨o1, o2, o3, o4, o5, rfl, h1, h2, h3, h4, h5⟩ := h; exact ⟨o1, o2, o3, o4, o5, rfl, RdD.same h1 s, RdD.same h2 s, RdD.same h3 s, RdD.same h4 s, RdD.same h5 s⟩, fun h a b => by obtain ⟨o1, o2, o3, o4, o5, rfl, h1, h2, h3, h4, h5⟩ := h; exact ⟨o1, o2, o3, o4, o5, rfl, RdD.widen h1 a b, RdD.widen h2 a b, RdD.widen h3 a b, RdD.widen h4 a b, RdD.widen h5 a b⟩, fun h => by obtain ⟨o1, o2, o3, o4, o5, rfl, h1, h2, h3, h4, h5⟩ := h; exact ⟨o1, o2, o3, o4, o5, rfl, RdD.any h1, RdD.any h2, RdD.any h3, RdD.any h4, RdD.any h5⟩⟩
theorem Cluster.op {w : World} {lo hi : Nat} {cs : List Value} {x : Cluster} (h : Dat.R w lo hi cs x) : ∃ o1 o2 o3 o4 o5, cs = [o1, .int .i64 x.graph.workers, .int .i64 x.graph.cap, o2, o3, o4, o5] ∧ RdD w lo hi o1 x.graph.nodes ∧ RdD w lo hi o2 x.workers ∧ RdD w lo hi o3 x.links ∧ RdD w lo hi o4 x.tokens ∧ RdD w lo hi o5 x.news := h
theorem Cluster.mkR {w : World} {lo hi : Nat} {o1 o2 o3 o4 o5 : Value} (x : Cluster) (h1 : RdD w lo hi o1 x.graph.nodes) (h2 : RdD w lo hi o2 x.workers) (h3 : RdD w lo hi o3 x.links) (h4 : RdD w lo hi o4 x.tokens) (h5 : RdD w lo hi o5 x.news) : Dat.R w lo hi [o1, .int .i64 x.graph.workers, .int .i64 x.graph.cap, o2, o3, o4, o5] x := ⟨o1, o2, o3, o4, o5, rfl, h1, h2, h3, h4, h5⟩
def cntCluster (x : Cluster) : Nat := cntGraph x.graph + cntL cntWorker x.workers + cntL cntLink x.links + x.tokens.length + x.news.length
theorem Node.opD {w : World} {lo hi : Nat} {q0 q1 q2 o1 : Value} {x : Node} (h : Dat.R w lo hi [q0, q1, q2, o1] x) : RdD w lo hi o1 x.outs := by
  obtain ⟨u, e, h1⟩ := Node.op h
  simp only [List.cons.injEq, and_true] at e
  obtain ⟨rfl, rfl, rfl, rfl⟩ := e
  exact h1
theorem Graph.opD {w : World} {lo hi : Nat} {o1 q1 q2 : Value} {x : Graph} (h : Dat.R w lo hi [o1, q1, q2] x) : RdD w lo hi o1 x.nodes := by
  obtain ⟨u, e, h1⟩ := Graph.op h
  simp only [List.cons.injEq, and_true] at e
  obtain ⟨rfl, rfl, rfl⟩ := e
  exact h1
theorem Worker.opD {w : World} {lo hi : Nat} {o1 o2 o3 o4 o5 o6 o7 o8 : Value} {x : Worker} (h : Dat.R w lo hi [o1, o2, o3, o4, o5, o6, o7, o8] x) : RdD w lo hi o1 x.queue ∧ RdD w lo hi o2 x.staged ∧ RdD w lo hi o3 x.inputs ∧ RdD w lo hi o4 x.cells ∧ RdD w lo hi o5 x.sums ∧ RdD w lo hi o6 x.black ∧ RdD w lo hi o7 x.caps ∧ RdD w lo hi o8 x.dones := by
  obtain ⟨u0, u1, u2, u3, u4, u5, u6, u7, e, h0, h1, h2, h3, h4, h5, h6, h7⟩ := Worker.op h
  simp only [List.cons.injEq, and_true] at e
  obtain ⟨rfl, rfl, rfl, rfl, rfl, rfl, rfl, rfl⟩ := e
  exact ⟨h0, h1, h2, h3, h4, h5, h6, h7⟩
theorem Link.opD {w : World} {lo hi : Nat} {q0 o1 q2 q3 q4 q5 : Value} {x : Link} (h : Dat.R w lo hi [q0, o1, q2, q3, q4, q5] x) : RdD w lo hi o1 x.queue := by
  obtain ⟨u, e, h1⟩ := Link.op h
  simp only [List.cons.injEq, and_true] at e
  obtain ⟨rfl, rfl, rfl, rfl, rfl, rfl⟩ := e
  exact h1
theorem Cluster.opD {w : World} {lo hi : Nat} {o1 q1 q2 o2 o3 o4 o5 : Value} {x : Cluster} (h : Dat.R w lo hi [o1, q1, q2, o2, o3, o4, o5] x) : RdD w lo hi o1 x.graph.nodes ∧ RdD w lo hi o2 x.workers ∧ RdD w lo hi o3 x.links ∧ RdD w lo hi o4 x.tokens ∧ RdD w lo hi o5 x.news := by
  obtain ⟨u0, u1, u2, u3, u4, e, h0, h1, h2, h3, h4⟩ := Cluster.op h
  simp only [List.cons.injEq, and_true] at e
  obtain ⟨rfl, rfl, rfl, rfl, rfl, rfl, rfl⟩ := e
  exact ⟨h0, h1, h2, h3, h4⟩
instance : Own1 Node := { (inferInstance : Dat Node) with
  O := fun w lo hi cs x => ∃ o1, cs = [.int .i64 x.kind, .int .i64 x.a, .int .i64 x.b, o1] ∧ SepL [o1] ∧ Own w lo hi 1 o1 (List.flatMap (Enc.enc (α := Int)) x.outs)
  rd := fun ⟨o1, e, s, h1⟩ => ⟨o1, e, h1.rdD⟩
  kp := fun ⟨o1, e, s, h1⟩ k => ⟨o1, e, s, h1.kp (k.sub (fpr_mem (by rw [e]; simp)))⟩
  wide := fun ⟨o1, e, s, h1⟩ a b => ⟨o1, e, s, h1.widen a b⟩
  inn := by rintro w lo hi cs x ⟨o1, rfl, s, h1⟩; exact FpA.all ⟨(fun _ h => absurd h List.not_mem_nil), (fun _ h => absurd h List.not_mem_nil), (fun _ h => absurd h List.not_mem_nil), h1.innb, trivial⟩
  nd := by rintro w lo hi cs x ⟨o1, rfl, s, h1⟩; exact (show (fpr [o1]).Nodup from SepL.nd s) }
theorem Node.opO {w : World} {lo hi : Nat} {cs : List Value} {x : Node} (h : Own1.O w lo hi cs x) : ∃ o1, cs = [.int .i64 x.kind, .int .i64 x.a, .int .i64 x.b, o1] ∧ SepL [o1] ∧ Own w lo hi 1 o1 (List.flatMap (Enc.enc (α := Int)) x.outs) := h
theorem Node.mkO {w : World} {lo hi : Nat} {o1 : Value} (x : Node) (s : SepL [o1]) (h1 : Own w lo hi 1 o1 (List.flatMap (Enc.enc (α := Int)) x.outs)) : Own1.O w lo hi [.int .i64 x.kind, .int .i64 x.a, .int .i64 x.b, o1] x := ⟨o1, rfl, s, h1⟩
theorem Node.opL {w : World} {lo hi : Nat} {q0 q1 q2 o1 : Value} {x : Node} (h : Own1.O w lo hi [q0, q1, q2, o1] x) : SepL [o1] ∧ Own w lo hi 1 o1 (List.flatMap (Enc.enc (α := Int)) x.outs) := by
  obtain ⟨p1, e, s, h1⟩ := h
  simp only [List.cons.injEq, and_true] at e
  obtain ⟨rfl, rfl, rfl, rfl⟩ := e
  exact ⟨s, h1⟩
instance : Own1 Worker := { (inferInstance : Dat Worker) with
  O := fun w lo hi cs x => ∃ o1 o2 o3 o4 o5 o6 o7 o8, cs = [o1, o2, o3, o4, o5, o6, o7, o8] ∧ SepL [o1, o2, o3, o4, o5, o6, o7, o8] ∧ Own w lo hi 5 o1 (List.flatMap (Enc.enc (α := Record)) x.queue) ∧ Own w lo hi 5 o2 (List.flatMap (Enc.enc (α := Record)) x.staged) ∧ Own w lo hi 5 o3 (List.flatMap (Enc.enc (α := Record)) x.inputs) ∧ Own w lo hi 4 o4 (List.flatMap (Enc.enc (α := Cell)) x.cells) ∧ Own w lo hi 1 o5 (List.flatMap (Enc.enc (α := Int)) x.sums) ∧ Own w lo hi 1 o6 (List.flatMap (Enc.enc (α := Bool)) x.black) ∧ Own w lo hi 1 o7 (List.flatMap (Enc.enc (α := Bool)) x.caps) ∧ Own w lo hi 2 o8 (List.flatMap (Enc.enc (α := Done)) x.dones)
  rd := fun ⟨o1, o2, o3, o4, o5, o6, o7, o8, e, s, h1, h2, h3, h4, h5, h6, h7, h8⟩ => ⟨o1, o2, o3, o4, o5, o6, o7, o8, e, h1.rdD, h2.rdD, h3.rdD, h4.rdD, h5.rdD, h6.rdD, h7.rdD, h8.rdD⟩
  kp := fun ⟨o1, o2, o3, o4, o5, o6, o7, o8, e, s, h1, h2, h3, h4, h5, h6, h7, h8⟩ k => ⟨o1, o2, o3, o4, o5, o6, o7, o8, e, s, h1.kp (k.sub (fpr_mem (by rw [e]; simp))), h2.kp (k.sub (fpr_mem (by rw [e]; simp))), h3.kp (k.sub (fpr_mem (by rw [e]; simp))), h4.kp (k.sub (fpr_mem (by rw [e]; simp))), h5.kp (k.sub (fpr_mem (by rw [e]; simp))), h6.kp (k.sub (fpr_mem (by rw [e]; simp))), h7.kp (k.sub (fpr_mem (by rw [e]; simp))), h8.kp (k.sub (fpr_mem (by rw [e]; simp)))⟩
  wide := fun ⟨o1, o2, o3, o4, o5, o6, o7, o8, e, s, h1, h2, h3, h4, h5, h6, h7, h8⟩ a b => ⟨o1, o2, o3, o4, o5, o6, o7, o8, e, s, h1.widen a b, h2.widen a b, h3.widen a b, h4.widen a b, h5.widen a b, h6.widen a b, h7.widen a b, h8.widen a b⟩
  inn := by rintro w lo hi cs x ⟨o1, o2, o3, o4, o5, o6, o7, o8, rfl, s, h1, h2, h3, h4, h5, h6, h7, h8⟩; exact FpA.all ⟨h1.innb, h2.innb, h3.innb, h4.innb, h5.innb, h6.innb, h7.innb, h8.innb, trivial⟩
  nd := by rintro w lo hi cs x ⟨o1, o2, o3, o4, o5, o6, o7, o8, rfl, s, h1, h2, h3, h4, h5, h6, h7, h8⟩; exact (show (fpr [o1, o2, o3, o4, o5, o6, o7, o8]).Nodup from SepL.nd s) }
theorem Worker.opO {w : World} {lo hi : Nat} {cs : List Value} {x : Worker} (h : Own1.O w lo hi cs x) : ∃ o1 o2 o3 o4 o5 o6 o7 o8, cs = [o1, o2, o3, o4, o5, o6, o7, o8] ∧ SepL [o1, o2, o3, o4, o5, o6, o7, o8] ∧ Own w lo hi 5 o1 (List.flatMap (Enc.enc (α := Record)) x.queue) ∧ Own w lo hi 5 o2 (List.flatMap (Enc.enc (α := Record)) x.staged) ∧ Own w lo hi 5 o3 (List.flatMap (Enc.enc (α := Record)) x.inputs) ∧ Own w lo hi 4 o4 (List.flatMap (Enc.enc (α := Cell)) x.cells) ∧ Own w lo hi 1 o5 (List.flatMap (Enc.enc (α := Int)) x.sums) ∧ Own w lo hi 1 o6 (List.flatMap (Enc.enc (α := Bool)) x.black) ∧ Own w lo hi 1 o7 (List.flatMap (Enc.enc (α := Bool)) x.caps) ∧ Own w lo hi 2 o8 (List.flatMap (Enc.enc (α := Done)) x.dones) := h
theorem Worker.mkO {w : World} {lo hi : Nat} {o1 o2 o3 o4 o5 o6 o7 o8 : Value} (x : Worker) (s : SepL [o1, o2, o3, o4, o5, o6, o7, o8]) (h1 : Own w lo hi 5 o1 (List.flatMap (Enc.enc (α := Record)) x.queue)) (h2 : Own w lo hi 5 o2 (List.flatMap (Enc.enc (α := Record)) x.staged)) (h3 : Own w lo hi 5 o3 (List.flatMap (Enc.enc (α := Record)) x.inputs)) (h4 : Own w lo hi 4 o4 (List.flatMap (Enc.enc (α := Cell)) x.cells)) (h5 : Own w lo hi 1 o5 (List.flatMap (Enc.enc (α := Int)) x.sums)) (h6 : Own w lo hi 1 o6 (List.flatMap (Enc.enc (α := Bool)) x.black)) (h7 : Own w lo hi 1 o7 (List.flatMap (Enc.enc (α := Bool)) x.caps)) (h8 : Own w lo hi 2 o8 (List.flatMap (Enc.enc (α := Done)) x.dones)) : Own1.O w lo hi [o1, o2, o3, o4, o5, o6, o7, o8] x := ⟨o1, o2, o3, o4, o5, o6, o7, o8, rfl, s, h1, h2, h3, h4, h5, h6, h7, h8⟩
theorem Worker.opL {w : World} {lo hi : Nat} {o1 o2 o3 o4 o5 o6 o7 o8 : Value} {x : Worker} (h : Own1.O w lo hi [o1, o2, o3, o4, o5, o6, o7, o8] x) : SepL [o1, o2, o3, o4, o5, o6, o7, o8] ∧ Own w lo hi 5 o1 (List.flatMap (Enc.enc (α := Record)) x.queue) ∧ Own w lo hi 5 o2 (List.flatMap (Enc.enc (α := Record)) x.staged) ∧ Own w lo hi 5 o3 (List.flatMap (Enc.enc (α := Record)) x.inputs) ∧ Own w lo hi 4 o4 (List.flatMap (Enc.enc (α := Cell)) x.cells) ∧ Own w lo hi 1 o5 (List.flatMap (Enc.enc (α := Int)) x.sums) ∧ Own w lo hi 1 o6 (List.flatMap (Enc.enc (α := Bool)) x.black) ∧ Own w lo hi 1 o7 (List.flatMap (Enc.enc (α := Bool)) x.caps) ∧ Own w lo hi 2 o8 (List.flatMap (Enc.enc (α := Done)) x.dones) := by
  obtain ⟨p1, p2, p3, p4, p5, p6, p7, p8, e, s, h1, h2, h3, h4, h5, h6, h7, h8⟩ := h
  simp only [List.cons.injEq, and_true] at e
  obtain ⟨rfl, rfl, rfl, rfl, rfl, rfl, rfl, rfl⟩ := e
  exact ⟨s, h1, h2, h3, h4, h5, h6, h7, h8⟩
instance : Own1 Link := { (inferInstance : Dat Link) with
  O := fun w lo hi cs x => ∃ o1, cs = [.int .i64 x.cap, o1, .int .i64 x.credits, .int .i64 x.back, .int .i64 x.sent, .int .i64 x.got] ∧ SepL [o1] ∧ Own w lo hi 5 o1 (List.flatMap (Enc.enc (α := Record)) x.queue)
  rd := fun ⟨o1, e, s, h1⟩ => ⟨o1, e, h1.rdD⟩
  kp := fun ⟨o1, e, s, h1⟩ k => ⟨o1, e, s, h1.kp (k.sub (fpr_mem (by rw [e]; simp)))⟩
  wide := fun ⟨o1, e, s, h1⟩ a b => ⟨o1, e, s, h1.widen a b⟩
  inn := by rintro w lo hi cs x ⟨o1, rfl, s, h1⟩; exact FpA.all ⟨(fun _ h => absurd h List.not_mem_nil), h1.innb, (fun _ h => absurd h List.not_mem_nil), (fun _ h => absurd h List.not_mem_nil), (fun _ h => absurd h List.not_mem_nil), (fun _ h => absurd h List.not_mem_nil), trivial⟩
  nd := by rintro w lo hi cs x ⟨o1, rfl, s, h1⟩; exact (show (fpr [o1]).Nodup from SepL.nd s) }
theorem Link.opO {w : World} {lo hi : Nat} {cs : List Value} {x : Link} (h : Own1.O w lo hi cs x) : ∃ o1, cs = [.int .i64 x.cap, o1, .int .i64 x.credits, .int .i64 x.back, .int .i64 x.sent, .int .i64 x.got] ∧ SepL [o1] ∧ Own w lo hi 5 o1 (List.flatMap (Enc.enc (α := Record)) x.queue) := h
theorem Link.mkO {w : World} {lo hi : Nat} {o1 : Value} (x : Link) (s : SepL [o1]) (h1 : Own w lo hi 5 o1 (List.flatMap (Enc.enc (α := Record)) x.queue)) : Own1.O w lo hi [.int .i64 x.cap, o1, .int .i64 x.credits, .int .i64 x.back, .int .i64 x.sent, .int .i64 x.got] x := ⟨o1, rfl, s, h1⟩
theorem Link.opL {w : World} {lo hi : Nat} {q0 q1 q2 q3 q4 o1 : Value} {x : Link} (h : Own1.O w lo hi [q0, o1, q1, q2, q3, q4] x) : SepL [o1] ∧ Own w lo hi 5 o1 (List.flatMap (Enc.enc (α := Record)) x.queue) := by
  obtain ⟨p1, e, s, h1⟩ := h
  simp only [List.cons.injEq, and_true] at e
  obtain ⟨rfl, rfl, rfl, rfl, rfl, rfl⟩ := e
  exact ⟨s, h1⟩
def okStamp (x : Stamp) : Prop := (rg x.epoch) ∧ (rg x.turn)
def okRecord (x : Record) : Prop := (rg x.op) ∧ (okStamp x.stamp) ∧ (rg x.key) ∧ (rg x.val)
def okCell (x : Cell) : Prop := (rg x.op) ∧ (rg x.epoch) ∧ (rg x.key) ∧ (rg x.val)
def okDone (x : Done) : Prop := (rg x.epoch) ∧ (True)
def okToken (x : Token) : Prop := (True) ∧ (rg x.place) ∧ (rg x.sum) ∧ (True) ∧ (True)
def okNews (x : News) : Prop := (rg x.dest) ∧ (rg x.epoch) ∧ (True)
def okCount (x : Count) : Prop := (okStamp x.stamp) ∧ (rg x.n)
def okNode (x : Node) : Prop := (rg x.kind) ∧ (rg x.a) ∧ (rg x.b) ∧ (∀ y ∈ x.outs, rg y)
def okGraph (x : Graph) : Prop := (∀ y ∈ x.nodes, okNode y) ∧ (rg x.workers) ∧ (rg x.cap)
def okWorker (x : Worker) : Prop := (∀ y ∈ x.queue, okRecord y) ∧ (∀ y ∈ x.staged, okRecord y) ∧ (∀ y ∈ x.inputs, okRecord y) ∧ (∀ y ∈ x.cells, okCell y) ∧ (∀ y ∈ x.sums, rg y) ∧ (∀ y ∈ x.black, True) ∧ (∀ y ∈ x.caps, True) ∧ (∀ y ∈ x.dones, okDone y)
def okLink (x : Link) : Prop := (rg x.cap) ∧ (∀ y ∈ x.queue, okRecord y) ∧ (rg x.credits) ∧ (rg x.back) ∧ (rg x.sent) ∧ (rg x.got)
def okCluster (x : Cluster) : Prop := (okGraph x.graph) ∧ (∀ y ∈ x.workers, okWorker y) ∧ (∀ y ∈ x.links, okLink y) ∧ (∀ y ∈ x.tokens, okToken y) ∧ (∀ y ∈ x.news, okNews y)
section
variable {w w' : World} {lo hi lo' hi' : Nat} {o1 o2 o3 o4 o5 : Value} {x : Cluster} {y : Option Nat}
def OwC (w : World) (lo hi : Nat) (o1 o2 o3 o4 o5 : Value) (x : Cluster) : Prop :=
  ∃ f1 f2 f3, OwF w lo hi o1 x.graph.nodes f1 ∧ OwF w lo hi o2 x.workers f2 ∧ OwF w lo hi o3 x.links f3 ∧ Own w lo hi 5 o4 (List.flatMap (Enc.enc (α := Token)) x.tokens) ∧ Own w lo hi 3 o5 (List.flatMap (Enc.enc (α := News)) x.news) ∧ DjL [f1, f2, f3, blks o4, blks o5]
theorem OwC.same (h : OwC w lo hi o1 o2 o3 o4 o5 x) (s : Same w w' lo hi) : OwC w' lo hi o1 o2 o3 o4 o5 x := by
  obtain ⟨f1, f2, f3, h1, h2, h3, h4, h5, sp⟩ := h
  exact ⟨f1, f2, f3, h1.same s, h2.same s, h3.same s, h4.kp ⟨s.size, fun b hb hl => s.block b (h4.in2 b hb).1 (h4.in2 b hb).2 hl⟩, h5.kp ⟨s.size, fun b hb hl => s.block b (h5.in2 b hb).1 (h5.in2 b hb).2 hl⟩, sp⟩
theorem OwC.ext (h : OwC w lo hi o1 o2 o3 o4 o5 x) (e : Ext w w') : OwC w' lo hi o1 o2 o3 o4 o5 x := h.same (e.keeps (by simp))
theorem OwC.mod (h : OwC w lo hi o1 o2 o3 o4 o5 x) (m : Mod w w' y) (hx : ∀ g, y = some g → g < lo ∨ hi ≤ g) : OwC w' lo hi o1 o2 o3 o4 o5 x := h.same (m.keeps hx)
theorem OwC.modR (h : OwC w lo hi o1 o2 o3 o4 o5 x) (m : ModR w w' lo' hi') (hx : hi ≤ lo' ∨ hi' ≤ lo) : OwC w' lo hi o1 o2 o3 o4 o5 x := h.same (m.keeps hx)
theorem OwC.widen (h : OwC w lo hi o1 o2 o3 o4 o5 x) (a : lo' ≤ lo) (b : hi ≤ hi') : OwC w lo' hi' o1 o2 o3 o4 o5 x := by
  obtain ⟨f1, f2, f3, h1, h2, h3, h4, h5, sp⟩ := h
  exact ⟨f1, f2, f3, h1.widen a b, h2.widen a b, h3.widen a b, h4.widen a b, h5.widen a b, sp⟩
theorem OwC.setW {P : Program} {t i lo2 hi2 : Nat} {z cs : List Value} {y : Worker} (hT : StT P t (Dat.sz Worker) z) (h : OwC w lo hi o1 o2 o3 o4 o5 x) (hi' : i < x.workers.length) (ho : Own1.O w lo2 hi2 cs y) (hd : hi ≤ lo2) (hl : lo ≤ lo2) (hh : hi ≤ hi2) :
    ∃ w', (storeVar t ⟨sblk o2, soff o2 + i * Dat.sz Worker, none⟩ (.agg cs.toArray)).run P w = .ok () w' ∧ Mod w w' o2.ownBlock ∧ OwC w' lo hi2 o1 o2 o3 o4 o5 { x with workers := x.workers.set i y } := by
  obtain ⟨f1, f2, f3, h1, h2, h3, h4, h5, ⟨d1, d2, d3, d4, _⟩, ⟨d5, d6, d7, _⟩, sp⟩ := h
  have far : ∀ {f : List Nat}, (∀ b ∈ f, lo ≤ b ∧ b < hi) → Dj f (fpr cs) := fun hf b hb hc => by have := hf b hb; have := Own1.inn ho b hc; omega
  obtain ⟨w', f', hr, hm, h2', kq, hin⟩ := h2.set hT hi' ho (far h2.in2) hl hh
  exact ⟨w', hr, hm, f1, f', f3, (h1.kp (kq.kp d1)).widen (Nat.le_refl _) hh, h2', (h3.kp (kq.kp d5.symm)).widen (Nat.le_refl _) hh, (h4.kp (kq.kp d6.symm)).widen (Nat.le_refl _) hh, (h5.kp (kq.kp d7.symm)).widen (Nat.le_refl _) hh,
    ⟨d1.grow hin (far h1.in2), d2, d3, d4, trivial⟩, ⟨(d5.symm.grow hin (far h3.in2)).symm, (d6.symm.grow hin (far h4.in2)).symm, (d7.symm.grow hin (far h5.in2)).symm, trivial⟩, sp⟩
theorem Dj.nilR {f : List Nat} : Dj f (blks (.slice none 0 0)) := fun b _ hc => by simp [blks, Value.ownBlock] at hc
def OwR (w : World) (lo hi b : Nat) (o1 o2 o3 o4 o5 : Value) (x : Cluster) (ok : Bool) : Prop :=
  ∃ f1 f2 f3, Blk w b [o1, .int .i64 x.graph.workers, .int .i64 x.graph.cap, o2, o3, o4, o5, .bool ok] ∧ lo ≤ b ∧ OwF w lo hi o1 x.graph.nodes f1 ∧ OwF w lo hi o2 x.workers f2 ∧ OwF w lo hi o3 x.links f3 ∧ Own w lo hi 5 o4 (List.flatMap (Enc.enc (α := Token)) x.tokens) ∧ Own w lo hi 3 o5 (List.flatMap (Enc.enc (α := News)) x.news) ∧ DjL [f1, f2, f3, blks o4, blks o5, [b]]
theorem OwR.of {b : Nat} {ok : Bool} (h : OwC w lo hi o1 o2 o3 o4 o5 x) (hB : Blk w b [o1, .int .i64 x.graph.workers, .int .i64 x.graph.cap, o2, o3, o4, o5, .bool ok]) (hd : b < lo ∨ hi ≤ b) (h1 : lo' ≤ lo) (h2 : lo' ≤ b) (h3 : hi ≤ hi') : OwR w lo' hi' b o1 o2 o3 o4 o5 x ok := by
  obtain ⟨f1, f2, f3, a1, a2, a3, a4, a5, ⟨d1, d2, d3, d4, _⟩, ⟨d5, d6, d7, _⟩, ⟨d8, d9, _⟩, ⟨d10, _⟩, _⟩ := h
  have far : ∀ {f : List Nat}, (∀ y ∈ f, lo ≤ y ∧ y < hi) → Dj f [b] := fun hf y hy hc => by have := hf y hy; simp at hc; omega
  exact ⟨f1, f2, f3, hB, h2, a1.widen h1 h3, a2.widen h1 h3, a3.widen h1 h3, a4.widen h1 h3, a5.widen h1 h3,
    ⟨d1, d2, d3, d4, far a1.in2, trivial⟩, ⟨d5, d6, d7, far a2.in2, trivial⟩, ⟨d8, d9, far a3.in2, trivial⟩, ⟨d10, far a4.in2, trivial⟩, ⟨far a5.in2, trivial⟩, trivial, trivial⟩
theorem OwC.of (x : Cluster) {a1 b1 a2 b2 a3 b3 a4 b4 a5 b5 : Nat} (h1 : OwS w a1 b1 o1 x.graph.nodes) (h2 : OwS w a2 b2 o2 x.workers) (h3 : OwS w a3 b3 o3 x.links) (h4 : Own w a4 b4 5 o4 (List.flatMap (Enc.enc (α := Token)) x.tokens)) (h5 : Own w a5 b5 3 o5 (List.flatMap (Enc.enc (α := News)) x.news))
    (hb : lo ≤ a1 ∧ b1 ≤ hi ∧ lo ≤ a2 ∧ b2 ≤ hi ∧ lo ≤ a3 ∧ b3 ≤ hi ∧ lo ≤ a4 ∧ b4 ≤ hi ∧ lo ≤ a5 ∧ b5 ≤ hi)
    (hd : (b1 ≤ a2 ∨ b2 ≤ a1) ∧ (b1 ≤ a3 ∨ b3 ≤ a1) ∧ (b1 ≤ a4 ∨ b4 ≤ a1) ∧ (b1 ≤ a5 ∨ b5 ≤ a1) ∧ (b2 ≤ a3 ∨ b3 ≤ a2) ∧ (b2 ≤ a4 ∨ b4 ≤ a2) ∧ (b2 ≤ a5 ∨ b5 ≤ a2) ∧ (b3 ≤ a4 ∨ b4 ≤ a3) ∧ (b3 ≤ a5 ∨ b5 ≤ a3) ∧ (b4 ≤ a5 ∨ b5 ≤ a4)) : OwC w lo hi o1 o2 o3 o4 o5 x := by
  obtain ⟨f1, h1⟩ := h1.owf
  obtain ⟨f2, h2⟩ := h2.owf
  obtain ⟨f3, h3⟩ := h3.owf
  obtain ⟨p1, q1, p2, q2, p3, q3, p4, q4, p5, q5⟩ := hb
  obtain ⟨d1, d2, d3, d4, d5, d6, d7, d8, d9, d10⟩ := hd
  exact ⟨f1, f2, f3, h1.widen p1 q1, h2.widen p2 q2, h3.widen p3 q3, h4.widen p4 q4, h5.widen p5 q5,
    ⟨Dj.apart h1.in2 h2.in2 d1, Dj.apart h1.in2 h3.in2 d2, Dj.apart h1.in2 h4.in2 d3, Dj.apart h1.in2 h5.in2 d4, trivial⟩, ⟨Dj.apart h2.in2 h3.in2 d5, Dj.apart h2.in2 h4.in2 d6, Dj.apart h2.in2 h5.in2 d7, trivial⟩,
    ⟨Dj.apart h3.in2 h4.in2 d8, Dj.apart h3.in2 h5.in2 d9, trivial⟩, ⟨Dj.apart h4.in2 h5.in2 d10, trivial⟩, trivial, trivial⟩
end
def mkCell (k : Nat) : Cell := ⟨((k : Nat) : Int), ((k + 1 : Nat) : Int), ((k + 1 + 1 : Nat) : Int), ((k + 1 + 1 + 1 : Nat) : Int)⟩
def ordI (a b : Int) : Int := if a < b then -1 else if b < a then 1 else 0
def szM (m : Nat) (n : Int) : Int := if n - m < 0 then -1 else n - m
section
variable {α : Type} {xs : List α} {f : α → Nat} {k : Nat}
end
section
variable {α : Type} {xs ys : List α} {k : Nat}
theorem eq_len (h : ¬ xs.length = ys.length) : xs ≠ ys := fun e => h (by rw [e])
theorem eqS_step (hp : xs.take k = ys.take k) (h1 : k < xs.length) (h2 : k < ys.length) (h : xs[k] = ys[k]) : xs.take (k + 1) = ys.take (k + 1) := by
  rw [List.take_succ_eq_append_getElem h1, List.take_succ_eq_append_getElem h2, hp, h]
variable [DecidableEq α]
theorem eqS_no (h1 : k < xs.length) (h2 : k < ys.length) (h : ¬ xs[k] = ys[k]) : Value.bool false = .bool (decide (xs = ys)) := by
  have : xs ≠ ys := fun e => h (by subst e; rfl)
  simp [this]
theorem eqS_yes (hp : xs.take k = ys.take k) (hl : xs.length = ys.length) (hk : xs.length ≤ k) : Value.bool true = .bool (decide (xs = ys)) := by
  rw [List.take_of_length_le hk, List.take_of_length_le (by omega)] at hp
  simp [hp]
end
def cmpL : List Int → List Int → Int
  | [], [] => 0
  | [], _ :: _ => -1
  | _ :: _, [] => 1
  | x :: xs, y :: ys => if ordI x y = 0 then cmpL xs ys else ordI x y
section
variable {xs ys : List Int} {k : Nat}
theorem cmpL_cons (hI : cmpL (xs.drop k) (ys.drop k) = cmpL xs ys) (h1 : k < xs.length) (h2 : k < ys.length) : cmpL xs ys = if ordI xs[k] ys[k] = 0 then cmpL (xs.drop (k + 1)) (ys.drop (k + 1)) else ordI xs[k] ys[k] := by
  rw [← hI, List.drop_eq_getElem_cons h1, List.drop_eq_getElem_cons h2, cmpL]
theorem cmpL_step (hI : cmpL (xs.drop k) (ys.drop k) = cmpL xs ys) (h1 : k < xs.length) (h2 : k < ys.length) (h : ordI xs[k] ys[k] = 0) : cmpL (xs.drop (k + 1)) (ys.drop (k + 1)) = cmpL xs ys := by
  rw [cmpL_cons hI h1 h2, if_pos h]
theorem cmpL_1 (hI : cmpL (xs.drop k) (ys.drop k) = cmpL xs ys) (h1 : k < xs.length) (h2 : ys.length ≤ k) : Value.int .i64 1 = .int .i64 (cmpL xs ys) := by
  rw [← hI, List.drop_eq_getElem_cons h1, List.drop_of_length_le h2, cmpL]
theorem cmpL_2 (hI : cmpL (xs.drop k) (ys.drop k) = cmpL xs ys) (h1 : k < xs.length) (h2 : k < ys.length) (h : ¬ ordI xs[k] ys[k] = 0) : Value.int .i64 (ordI xs[k] ys[k]) = .int .i64 (cmpL xs ys) := by
  rw [cmpL_cons hI h1 h2, if_neg h]
theorem cmpL_3 (hI : cmpL (xs.drop k) (ys.drop k) = cmpL xs ys) (h1 : xs.length ≤ k) (h2 : k < ys.length) : Value.int .i64 (-1) = .int .i64 (cmpL xs ys) := by
  rw [← hI, List.drop_eq_getElem_cons h2, List.drop_of_length_le h1, cmpL]
theorem cmpL_4 (hI : cmpL (xs.drop k) (ys.drop k) = cmpL xs ys) (h1 : xs.length ≤ k) (h2 : ys.length ≤ k) : Value.int .i64 0 = .int .i64 (cmpL xs ys) := by
  rw [← hI, List.drop_of_length_le h2, List.drop_of_length_le h1, cmpL]
end
def firstNZ : List Int → Int
  | [] => 0
  | x :: xs => if x = 0 then firstNZ xs else x
section
variable {xs : List Int} {k : Nat}
theorem firstNZ_step (hI : firstNZ (xs.drop k) = firstNZ xs) (h1 : k < xs.length) (h : xs[k] = 0) : firstNZ (xs.drop (k + 1)) = firstNZ xs := by
  rw [← hI, List.drop_eq_getElem_cons h1, firstNZ, if_pos h]
theorem firstNZ_yes (hI : firstNZ (xs.drop k) = firstNZ xs) (h1 : k < xs.length) (h : ¬ xs[k] = 0) : xs[k] = firstNZ xs := by
  rw [← hI, List.drop_eq_getElem_cons h1, firstNZ, if_neg h]
theorem firstNZ_no (hI : firstNZ (xs.drop k) = firstNZ xs) (h1 : xs.length ≤ k) : firstNZ xs = 0 := by
  rw [← hI, List.drop_of_length_le h1, firstNZ]
end
def cellOrd (x y : Cell) : Int := cmpL [x.epoch, x.op, x.key, x.val] [y.epoch, y.op, y.key, y.val]
theorem cellOrd_nz (x y : Cell) : cellOrd x y = firstNZ [ordI x.epoch y.epoch, ordI x.op y.op, ordI x.key y.key, ordI x.val y.val] := by simp [cellOrd, cmpL, firstNZ]
theorem cellOrd_a {x y : Cell} {n : Int} (h : n = firstNZ [ordI x.epoch y.epoch, ordI x.op y.op, ordI x.key y.key, ordI x.val y.val]) : Value.int .i64 n = .int .i64 (cellOrd x y) := by rw [cellOrd_nz, h]
theorem cellOrd_b {x y : Cell} (h : firstNZ [ordI x.epoch y.epoch, ordI x.op y.op, ordI x.key y.key, ordI x.val y.val] = 0) : Value.int .i64 0 = .int .i64 (cellOrd x y) := by rw [cellOrd_nz, h]
section
variable {α : Type} {xs : List α} {x : α} {k : Nat}
theorem has_step (hI : x ∉ xs.take k) (h1 : k < xs.length) (h : ¬ xs[k] = x) : x ∉ xs.take (k + 1) := by
  rw [List.take_succ_eq_append_getElem h1]
  simp only [List.mem_append, List.mem_singleton, not_or]
  exact ⟨hI, fun e => h e.symm⟩
variable [DecidableEq α]
theorem has_yes (h1 : k < xs.length) (h : xs[k] = x) : Value.bool true = .bool (decide (x ∈ xs)) := by
  have : x ∈ xs := h ▸ List.getElem_mem h1
  simp [this]
theorem has_no (hI : x ∉ xs.take k) (h1 : xs.length ≤ k) : Value.bool false = .bool (decide (x ∈ xs)) := by
  rw [List.take_of_length_le h1] at hI
  simp [hI]
def idxI (xs : List α) (x : α) : Int := if x ∈ xs then (xs.idxOf x : Int) else -1
end
def slot (x y : Cell) : Bool := x.op == y.op && x.epoch == y.epoch && x.key == y.key
def leastGo (op epoch key : Int) : List Cell → Int → Bool → Int × Bool
  | [], n, s => (n, s)
  | x :: xs, n, s => if slot x ⟨op, epoch, key, 0⟩ && (!s || decide (x.val < n)) then leastGo op epoch key xs x.val true else leastGo op epoch key xs n s
def leastM (xs : List Cell) (op epoch key : Int) : Int × Bool := leastGo op epoch key xs 0 false
section
variable {xs : List Cell} {op epoch key n : Int} {s : Bool} {k : Nat} {r : Int × Bool}
theorem leastGo_yes (hI : leastGo op epoch key (xs.drop k) n s = r) (h1 : k < xs.length) (h : (slot xs[k] ⟨op, epoch, key, 0⟩ && (!s || decide (xs[k].val < n))) = true) : leastGo op epoch key (xs.drop (k + 1)) xs[k].val true = r := by
  rw [← hI, List.drop_eq_getElem_cons h1, leastGo, if_pos h]
theorem leastGo_no (hI : leastGo op epoch key (xs.drop k) n s = r) (h1 : k < xs.length) (h : (slot xs[k] ⟨op, epoch, key, 0⟩ && (!s || decide (xs[k].val < n))) = false) : leastGo op epoch key (xs.drop (k + 1)) n s = r := by
  rw [← hI, List.drop_eq_getElem_cons h1, leastGo, if_neg (by simp [h])]
end
section
variable {α : Type} {xs : List α} {p : α → Bool} {k : Nat}
theorem all_step (hI : (xs.take k).all p = true) (h1 : k < xs.length) (h : p xs[k] = true) : (xs.take (k + 1)).all p = true := by
  rw [List.take_succ_eq_append_getElem h1, List.all_append, hI]
  simp [h]
theorem all_no (h1 : k < xs.length) (h : p xs[k] = false) : Value.bool false = .bool (xs.all p) := by
  congr 1; symm; rw [List.all_eq_false]
  exact ⟨_, List.getElem_mem h1, by simp [h]⟩
theorem all_yes (hI : (xs.take k).all p = true) (h1 : xs.length ≤ k) : Value.bool true = .bool (xs.all p) := by
  rw [List.take_of_length_le h1] at hI; rw [hI]
theorem filt_yes [Enc α] (h1 : k < xs.length) (h : p xs[k] = true) : ((xs.take k).filter p).flatMap Enc.enc ++ Enc.enc xs[k] = ((xs.take (k + 1)).filter p).flatMap Enc.enc := by
  rw [List.take_succ_eq_append_getElem h1, List.filter_append, List.flatMap_append]; simp [h]
theorem filt_no [Enc α] (h1 : k < xs.length) (h : p xs[k] = false) : ((xs.take k).filter p).flatMap Enc.enc = ((xs.take (k + 1)).filter p).flatMap Enc.enc := by
  rw [List.take_succ_eq_append_getElem h1, List.filter_append, List.flatMap_append]; simp [h]
theorem filt_len [Enc α] (xs : List α) (p : α → Bool) (k : Nat) : (((xs.take k).filter p).flatMap Enc.enc).length ≤ xs.length * Enc.sz α := by
  rw [sum_flat]
  refine Nat.mul_le_mul_right _ (Nat.le_trans (List.length_filter_le _ _) ?_)
  simp; omega
def adj : List α → List (α × α)
  | x :: y :: l => (x, y) :: adj (y :: l)
  | _ => []
theorem adj_len : ∀ (xs : List α), (adj xs).length = xs.length - 1
  | [] => rfl
  | [_] => rfl
  | x :: y :: l => by have := adj_len (y :: l); simp only [adj, List.length_cons] at *; omega
theorem adj_get : ∀ (xs : List α) (j : Nat) (h : j + 1 < xs.length) (h' : j < (adj xs).length), (adj xs)[j] = (xs[j], xs[j + 1])
  | x :: y :: l, 0, _, _ => rfl
  | x :: y :: l, j + 1, h, h' => by
    have := adj_get (y :: l) j (by simpa using h) (by simpa [adj] using h')
    simpa [adj] using this
variable {q : α × α → Bool} {j : Nat}
theorem adj_step (hI : ((adj xs).take j).all q = true) (h1 : j + 1 < xs.length) (h : q (xs[j], xs[j + 1]) = true) : ((adj xs).take (j + 1)).all q = true := by
  have h2 : j < (adj xs).length := by rw [adj_len]; omega
  exact all_step hI h2 (by rw [adj_get xs j h1 h2]; exact h)
theorem adj_no (h1 : j + 1 < xs.length) (h : q (xs[j], xs[j + 1]) = false) : Value.bool false = .bool ((adj xs).all q) := by
  have h2 : j < (adj xs).length := by rw [adj_len]; omega
  exact all_no h2 (by rw [adj_get xs j h1 h2]; exact h)
theorem adj_yes (hI : ((adj xs).take j).all q = true) (h1 : xs.length ≤ j + 1) : Value.bool true = .bool ((adj xs).all q) := all_yes hI (by rw [adj_len]; omega)
end
def nwP (a : List Cell) (x : Cell) : Bool := !(!(leastM a x.op x.epoch x.key).2 || decide (x.val < (leastM a x.op x.epoch x.key).1))
def isOf (op epoch : Int) (x : Cell) : Bool := x.op == op && x.epoch == epoch
def cellLt (q : Cell × Cell) : Bool := !decide (0 ≤ cellOrd q.1 q.2)
def win (n lo hi : Int) : Bool := decide (lo ≤ n) && decide (n ≤ hi)
def linkM (g : Graph) (a b : Int) : Int := if a < 0 ∨ b < 0 ∨ g.workers ≤ a ∨ g.workers ≤ b then -1 else IntKind.i64.wrap (IntKind.i64.wrap (a * g.workers) + b)
section
variable {x y : Graph} {k : Nat}
end
theorem kx {p q : Bool} (h : (!p || !q) = true) : (p && q) = false := by cases p <;> cases q <;> simp_all
theorem ky {p q : Bool} (h : (!p || !q) = false) : (p && q) = true := by cases p <;> cases q <;> simp_all
theorem kx0 {w p q : Bool} (h : (!p || !q) = true) : ((w && p) && q) = false := by cases w <;> cases p <;> cases q <;> simp_all
theorem ky0 {w p q : Bool} (h : (!p || !q) = false) (hw : w = true) : ((w && p) && q) = true := by cases w <;> cases p <;> cases q <;> simp_all
def kindOk (x : Node) : Bool :=
  if x.kind = 2 then win x.a 0 999 && x.b == 0 else if x.kind = 3 then win x.a 1 10 && win x.b 0 (IntKind.i64.wrap (x.a - 1)) else if x.kind = 4 then win x.a 0 99 && x.b == 0
  else win x.kind 1 8 && (x.a == 0) && (x.b == 0)
def nodeT (x : Node) : Bool := ((decide (2 < ((x.outs.length : Nat) : Int))) || ((x.kind == 8) && (decide (0 < ((x.outs.length : Nat) : Int))))) || ((((x.outs.length : Nat) : Int) == 2) && ((List.getD x.outs 0 default) == (List.getD x.outs 1 default)))
def nodeOk (x : Node) : Bool := kindOk x && !nodeT x && x.outs.all (win · 0 7)
section
variable {x : Node} {k : Nat}
theorem node_k (h : kindOk x = false) : Value.bool false = .bool (nodeOk x) := by simp [nodeOk, h]
theorem node_t (h : nodeT x = true) : Value.bool false = .bool (nodeOk x) := by simp [nodeOk, h]
theorem node_l {h1 : k < x.outs.length} (h : (!(win x.outs[k] 0 7)) = true) : Value.bool false = .bool (nodeOk x) := by
  have : x.outs.all (win · 0 7) = false := by
    rw [List.all_eq_false]; exact ⟨_, List.getElem_mem h1, by simpa using h⟩
  simp [nodeOk, this]
theorem node_y (hk : kindOk x = true) (ht : nodeT x = false) (hI : (x.outs.take k).all (win · 0 7) = true) (h1 : x.outs.length ≤ k) : Value.bool true = .bool (nodeOk x) := by
  rw [List.take_of_length_le h1] at hI
  simp [nodeOk, hk, ht, hI]
theorem node_2 (h : (x.kind == 2) = true) : kindOk x = (win x.a 0 999 && x.b == 0) := by simp at h; simp [kindOk, h]
theorem node_3 (h : (x.kind == 3) = true) : kindOk x = (win x.a 1 10 && win x.b 0 (IntKind.i64.wrap (x.a - 1))) := by simp at h; simp [kindOk, h]
theorem node_4 (h : (x.kind == 4) = true) : kindOk x = (win x.a 0 99 && x.b == 0) := by simp at h; simp [kindOk, h]
theorem node_0 (h2 : (x.kind == 2) = false) (h3 : (x.kind == 3) = false) (h4 : (x.kind == 4) = false) : kindOk x = (win x.kind 1 8 && (x.a == 0) && (x.b == 0)) := by simp at h2 h3 h4; simp [kindOk, h2, h3, h4]
theorem win_kind {n : Int} (h : n = 1 ∨ n = 2 ∨ n = 3 ∨ n = 4 ∨ n = 5 ∨ n = 6 ∨ n = 7 ∨ n = 8) : win n 1 8 = true := by
  rcases h with h | h | h | h | h | h | h | h <;> subst h <;> decide
theorem win_not {n : Int} (h : ¬ (n = 1 ∨ n = 2 ∨ n = 3 ∨ n = 4 ∨ n = 5 ∨ n = 6 ∨ n = 7 ∨ n = 8)) : win n 1 8 = false := by
  simp only [win, Bool.and_eq_false_iff, decide_eq_false_iff_not]; omega
def nodeS (x : Node) (p q : Bool) : Bool := (((!(win x.kind 1 8) || !p) || !q) || (decide (2 < ((x.outs.length : Nat) : Int)))) || ((x.kind == 8) && (decide (0 < ((x.outs.length : Nat) : Int))))
theorem node_s {p q : Bool} (hk : kindOk x = (win x.kind 1 8 && p && q)) (h : nodeS x p q = true) : Value.bool false = .bool (nodeOk x) := by
  simp only [nodeS] at h
  cases hkk : kindOk x with
  | false => exact node_k hkk
  | true =>
    rw [hkk] at hk
    have hk := hk.symm
    simp only [Bool.and_eq_true] at hk
    obtain ⟨⟨h1, h2⟩, h3⟩ := hk
    simp only [h1, h2, h3, Bool.not_true, Bool.false_or] at h
    exact node_t (by simp only [nodeT, h, Bool.true_or])
theorem node_p {p q : Bool} (h : nodeS x p q = false) (hk : kindOk x = (win x.kind 1 8 && p && q)) : kindOk x = true ∧ ((decide (2 < ((x.outs.length : Nat) : Int))) || ((x.kind == 8) && (decide (0 < ((x.outs.length : Nat) : Int))))) = false := by
  simp only [nodeS, Bool.or_eq_false_iff] at h
  obtain ⟨⟨⟨⟨h1, h2⟩, h3⟩, h4⟩, h5⟩ := h
  simp only [Bool.not_eq_false'] at h1 h2 h3
  simp only [hk, h1, h2, h3, h4, h5]; simp
theorem node_d {h1 : k < x.outs.length} (h : ((!(win x.outs[k] 0 7)) || ((decide (0 < ((k : Nat) : Int))) && ((List.getD x.outs 0 default) == (List.getD x.outs 1 default)))) = true) (ht : ((decide (2 < ((x.outs.length : Nat) : Int))) || ((x.kind == 8) && (decide (0 < ((x.outs.length : Nat) : Int))))) = false) : Value.bool false = .bool (nodeOk x) := by
  rcases Bool.or_eq_true _ _ ▸ h with h | h
  · exact node_l h
  · simp only [Bool.and_eq_true, decide_eq_true_eq] at h
    have ht2 := (Bool.or_eq_false_iff.1 ht).1
    simp only [decide_eq_false_iff_not] at ht2
    refine node_t ?_
    have : ((x.outs.length : Nat) : Int) = 2 := by omega
    simp only [nodeT, this, h.2]; simp
theorem nodeL {h1 : k < x.outs.length} (h : ((!(win x.outs[k] 0 7)) || ((decide (0 < ((k : Nat) : Int))) && ((List.getD x.outs 0 default) == (List.getD x.outs 1 default)))) = false) : win x.outs[k] 0 7 = true := by
  have := (Bool.or_eq_false_iff.1 h).1
  simpa using this
theorem nodeJ {h1 : k < x.outs.length} (h : ((!(win x.outs[k] 0 7)) || ((decide (0 < ((k : Nat) : Int))) && ((List.getD x.outs 0 default) == (List.getD x.outs 1 default)))) = false) : 1 < k + 1 → ((List.getD x.outs 0 default) == (List.getD x.outs 1 default)) = false := fun hk => by
  have := (Bool.or_eq_false_iff.1 h).2
  have hd : decide (0 < ((k : Nat) : Int)) = true := decide_eq_true (by omega)
  rwa [hd, Bool.true_and] at this
theorem node_z {p q : Bool} (hS : nodeS x p q = false) (hk : kindOk x = (win x.kind 1 8 && p && q)) (hI : (x.outs.take k).all (win · 0 7) = true) (hJ : 1 < k → ((List.getD x.outs 0 default) == (List.getD x.outs 1 default)) = false) (h1 : x.outs.length ≤ k) : Value.bool true = .bool (nodeOk x) := by
  obtain ⟨hk, ht⟩ := node_p hS hk
  refine node_y hk ?_ hI h1
  simp only [nodeT, ht, Bool.false_or, Bool.and_eq_false_iff]
  by_cases h2 : ((x.outs.length : Nat) : Int) = 2
  · exact .inr (hJ (by omega))
  · exact .inl (by simpa using h2)
end
def kindAt (g : Graph) (to : Int) : Int := (List.getD g.nodes to.toNat default).kind
def edgeBad (g : Graph) (i : Nat) (x : Node) (to : Int) : Bool :=
  decide (((g.nodes.length : Nat) : Int) ≤ to) || (((x.kind == 7) && ((decide (((i : Nat) : Int) < to)) || ((kindAt g to != 5) && (kindAt g to != 6)))) || ((x.kind != 7) && (decide (to ≤ ((i : Nat) : Int)))))
def atOk (_ : Graph) (i : Nat) (x : Node) : Bool := !((!(nodeOk x)) || (!((x.kind == 1) == (((i : Nat) : Int) == 0))))
def nodeAtOk (g : Graph) (i : Nat) (x : Node) : Bool := atOk g i x && x.outs.all (fun to => !edgeBad g i x to)
def headBad (g : Graph) : Bool := ((!(win ((g.nodes.length : Nat) : Int) 1 8)) || (!(win g.workers 1 4))) || (!(win g.cap 1 4))
def graphOk (g : Graph) : Bool := !headBad g && (List.range g.nodes.length).all (fun i => nodeAtOk g i (List.getD g.nodes i default))
section
variable {g : Graph} {i k : Nat}
theorem getD_at {α : Type} [Inhabited α] {xs : List α} {i : Nat} (h : i < xs.length) : List.getD xs i default = xs[i] := by simp [List.getD, h]
theorem graph_h (h : headBad g = true) : Value.bool false = .bool (graphOk g) := by simp [graphOk, h]
theorem graph_n {h1 : i < g.nodes.length} (h : nodeAtOk g i g.nodes[i] = false) : Value.bool false = .bool (graphOk g) := by
  have : (List.range g.nodes.length).all (fun i => nodeAtOk g i (List.getD g.nodes i default)) = false := by
    rw [List.all_eq_false]; exact ⟨i, by simpa using h1, by rw [getD_at h1, h]; simp⟩
  simp only [graphOk, this, Bool.and_false]
theorem graph_a {h1 : i < g.nodes.length} (h : ((!(nodeOk g.nodes[i])) || (!((g.nodes[i].kind == 1) == (((i : Nat) : Int) == 0)))) = true) : Value.bool false = .bool (graphOk g) := graph_n (h1 := h1) (by
  simp only [nodeAtOk, atOk, h]; simp)
theorem graph_e {h1 : i < g.nodes.length} {h2 : k < g.nodes[i].outs.length} (h : edgeBad g i g.nodes[i] (g.nodes[i].outs[k]) = true) : Value.bool false = .bool (graphOk g) := graph_n (h1 := h1) (by
  have : g.nodes[i].outs.all (fun to => !edgeBad g i g.nodes[i] to) = false := by
    rw [List.all_eq_false]; exact ⟨_, List.getElem_mem h2, by simp [h]⟩
  simp only [nodeAtOk, this, Bool.and_false])
theorem graph_s {h1 : i < g.nodes.length} (ha : ((!(nodeOk g.nodes[i])) || (!((g.nodes[i].kind == 1) == (((i : Nat) : Int) == 0)))) = false) (hI : (g.nodes[i].outs.take k).all (fun to => !edgeBad g i g.nodes[i] to) = true) (hk : g.nodes[i].outs.length ≤ k)
    (hp : ∀ j, j < i → nodeAtOk g j (List.getD g.nodes j default) = true) : ∀ j, j < i + 1 → nodeAtOk g j (List.getD g.nodes j default) = true := fun j hj => by
  by_cases e : j = i
  · subst e
    rw [List.take_of_length_le hk] at hI
    rw [getD_at h1]; simp only [nodeAtOk, atOk, ha, hI]; simp
  · exact hp j (by omega)
theorem graph_y (hh : headBad g = false) (hp : ∀ j, j < i → nodeAtOk g j (List.getD g.nodes j default) = true) (hi : g.nodes.length ≤ i) : Value.bool true = .bool (graphOk g) := by
  have : (List.range g.nodes.length).all (fun i => nodeAtOk g i (List.getD g.nodes i default)) = true := by
    rw [List.all_eq_true]; intro j hj; exact hp j (by have := List.mem_range.1 hj; omega)
  simp only [graphOk, this, hh]; simp
theorem edge_a {x : Node} {to : Int} (h : decide (((g.nodes.length : Nat) : Int) ≤ to) = true) : edgeBad g i x to = true := by simp only [edgeBad, h, Bool.true_or]
theorem edge_b {x : Node} {to K : Int} (hK : K = kindAt g to) (h : (((x.kind == 7) && ((decide (((i : Nat) : Int) < to)) || ((K != 5) && (K != 6)))) || ((x.kind != 7) && (decide (to ≤ ((i : Nat) : Int))))) = true) : edgeBad g i x to = true := by
  subst hK; simp only [edgeBad, h, Bool.or_true]
theorem edge_n {x : Node} {to K : Int} (hK : K = kindAt g to) (h1 : decide (((g.nodes.length : Nat) : Int) ≤ to) = false) (h : (((x.kind == 7) && ((decide (((i : Nat) : Int) < to)) || ((K != 5) && (K != 6)))) || ((x.kind != 7) && (decide (to ≤ ((i : Nat) : Int))))) = false) : (!edgeBad g i x to) = true := by
  subst hK; simp only [edgeBad, h, h1, Bool.or_false, Bool.not_false]
theorem edge_s1 {x : Node} {to : Int} (h : ((decide (((g.nodes.length : Nat) : Int) ≤ to)) || ((x.kind != 7) && (decide (to ≤ ((i : Nat) : Int))))) = true) : edgeBad g i x to = true := by
  rcases Bool.or_eq_true _ _ ▸ h with h | h
  · exact edge_a h
  · simp only [edgeBad, h, Bool.or_true]
theorem edge_s2 {x : Node} {to K : Int} (hK : K = kindAt g to) (h : ((x.kind == 7) && ((decide (((i : Nat) : Int) < to)) || ((K != 5) && (K != 6)))) = true) : edgeBad g i x to = true := edge_b hK (by rw [h]; rfl)
theorem edge_sn {x : Node} {to K : Int} (hK : K = kindAt g to) (h1 : ((decide (((g.nodes.length : Nat) : Int) ≤ to)) || ((x.kind != 7) && (decide (to ≤ ((i : Nat) : Int))))) = false) (h : ((x.kind == 7) && ((decide (((i : Nat) : Int) < to)) || ((K != 5) && (K != 6)))) = false) : (!edgeBad g i x to) = true :=
  edge_n hK (Bool.or_eq_false_iff.1 h1).1 (by rw [h, (Bool.or_eq_false_iff.1 h1).2]; rfl)
theorem edge_lt {n to : Int} {q : Bool} (h : ((decide (n ≤ to)) || q) = false) : to < n := by
  have := of_decide_eq_false (Bool.or_eq_false_iff.1 h).1
  omega
theorem graph_to {h1 : i < g.nodes.length} {h2 : k < g.nodes[i].outs.length} (ha : ((!(nodeOk g.nodes[i])) || (!((g.nodes[i].kind == 1) == (((i : Nat) : Int) == 0)))) = false) : 0 ≤ g.nodes[i].outs[k] := by
  have hn : nodeOk g.nodes[i] = true := by simpa using (Bool.or_eq_false_iff.1 ha).1
  simp only [nodeOk, Bool.and_eq_true, List.all_eq_true] at hn
  have := hn.2 _ (List.getElem_mem h2)
  simp only [win, Bool.and_eq_true, decide_eq_true_eq] at this
  exact this.1
end
def ofE (e : Int) (r : Record) : Bool := r.stamp.epoch == e
def workAt (x : Worker) (e : Int) : Int := IntKind.i64.wrap (((x.queue.filter (ofE e)).length : Int) + ((x.staged.filter (ofE e)).length : Int))
def openAt (x : Worker) (e : Int) : Bool := x.inputs.any fun r => decide (r.stamp.epoch ≤ e)
def idle (x : Worker) : Bool := (x.queue.length == 0) && (x.staged.length == 0) && (x.inputs.length == 0)
def isDone (x : Worker) (e : Int) : Bool := x.dones.any fun d => d.epoch == e
def mkInt (k : Nat) : Int := ((k : Nat) : Int)
def mkBool (k : Nat) : Bool := Int.tmod ((k : Nat) : Int) 3 == 0
def mkRecord (k : Nat) : Record := ⟨((k : Nat) : Int), ⟨((k + 1 : Nat) : Int), ((k + 1 + 1 : Nat) : Int)⟩, ((k + 1 + 1 + 1 : Nat) : Int), ((k + 1 + 1 + 1 + 1 : Nat) : Int)⟩
def mkDone (k : Nat) : Done := ⟨((k : Nat) : Int), Int.tmod ((k + 1 : Nat) : Int) 3 == 0⟩
def mkToken (k : Nat) : Token := ⟨Int.tmod ((k : Nat) : Int) 3 == 0, ((k + 1 : Nat) : Int), ((k + 1 + 1 : Nat) : Int), Int.tmod ((k + 1 + 1 + 1 : Nat) : Int) 3 == 0, Int.tmod ((k + 1 + 1 + 1 + 1 : Nat) : Int) 3 == 0⟩
def mkNews (k : Nat) : News := ⟨((k : Nat) : Int), ((k + 1 : Nat) : Int), Int.tmod ((k + 1 + 1 : Nat) : Int) 3 == 0⟩
def numW (k : Nat) (x : Worker) : Nat := k + 5 * x.queue.length + 5 * x.staged.length + 5 * x.inputs.length + 4 * x.cells.length + 1 * x.sums.length + 1 * x.black.length + 1 * x.caps.length + 2 * x.dones.length
def markW (k : Nat) (x : Worker) : Worker :=
  ⟨mkL 5 mkRecord k x.queue.length, mkL 5 mkRecord (k + 5 * x.queue.length) x.staged.length, mkL 5 mkRecord (k + 5 * x.queue.length + 5 * x.staged.length) x.inputs.length,
    mkL 4 mkCell (k + 5 * x.queue.length + 5 * x.staged.length + 5 * x.inputs.length) x.cells.length, mkL 1 mkInt (k + 5 * x.queue.length + 5 * x.staged.length + 5 * x.inputs.length + 4 * x.cells.length) x.sums.length,
    mkL 1 mkBool (k + 5 * x.queue.length + 5 * x.staged.length + 5 * x.inputs.length + 4 * x.cells.length + 1 * x.sums.length) x.black.length,
    mkL 1 mkBool (k + 5 * x.queue.length + 5 * x.staged.length + 5 * x.inputs.length + 4 * x.cells.length + 1 * x.sums.length + 1 * x.black.length) x.caps.length,
    mkL 2 mkDone (k + 5 * x.queue.length + 5 * x.staged.length + 5 * x.inputs.length + 4 * x.cells.length + 1 * x.sums.length + 1 * x.black.length + 1 * x.caps.length) x.dones.length⟩
theorem any_step {α : Type} {xs : List α} {p : α → Bool} {k : Nat} (hI : (xs.take k).any p = false) (h1 : k < xs.length) (h : p xs[k] = false) : (xs.take (k + 1)).any p = false := by
  rw [List.take_succ_eq_append_getElem h1, List.any_append, hI]; simp [h]
def findI {α : Type} (xs : List α) (p : α → Bool) : Int := if xs.any p then ((xs.findIdx p : Nat) : Int) else -1
theorem find_yes {α : Type} {xs : List α} {p : α → Bool} {k : Nat} (hI : (xs.take k).any p = false) (h1 : k < xs.length) (h : p xs[k] = true) : Value.int .i64 ((k : Nat) : Int) = .int .i64 (findI xs p) := by
  have ha : xs.any p = true := by rw [List.any_eq_true]; exact ⟨_, List.getElem_mem h1, h⟩
  have : xs.findIdx p = k := by
    rw [List.findIdx_eq h1]
    refine ⟨h, fun j hj => ?_⟩
    rw [List.any_eq_false] at hI
    have := hI xs[j] (by rw [List.mem_take_iff_getElem]; exact ⟨j, by omega, rfl⟩)
    simpa using this
  simp [findI, ha, this]
theorem find_no {α : Type} {xs : List α} {p : α → Bool} {k : Nat} (hI : (xs.take k).any p = false) (h1 : xs.length ≤ k) : Value.int .i64 (-1) = .int .i64 (findI xs p) := by
  rw [List.take_of_length_le h1] at hI; simp [findI, hI]
theorem any_find {α : Type} {xs : List α} {p : α → Bool} : Value.bool (decide (0 ≤ findI xs p)) = .bool (xs.any p) := by
  unfold findI
  cases h : xs.any p <;> simp
def stampOk (s : Stamp) : Bool := win s.epoch 0 3 && win s.turn 0 6
def recordOk (r : Record) : Bool := (win r.op 0 7 && stampOk r.stamp) && (win r.key 0 99 && win r.val 0 999)
def isNodeM (g : Graph) (op : Int) : Bool := win op 0 (((g.nodes.length : Nat) : Int) - 1)
def opOk (g : Graph) (r : Record) : Bool := recordOk r && isNodeM g r.op
def nextT (s : Stamp) : Stamp × Bool := if (!(stampOk s) || (s.turn == 6)) = true then (s, false) else (⟨s.epoch, s.turn + 1⟩, true)
theorem win_iff {n lo hi : Int} : win n lo hi = true ↔ lo ≤ n ∧ n ≤ hi := by simp [win]
theorem win_hi {s : Stamp} (h : stampOk s = true) : 0 ≤ s.turn ∧ s.turn ≤ 6 := by
  simp only [stampOk, Bool.and_eq_true, win_iff] at h; omega
theorem nt_ge {s : Stamp} (h : (!(stampOk s) || decide (6 ≤ s.turn)) = true) : (!(stampOk s) || (s.turn == 6)) = true := by
  cases hs : stampOk s with
  | false => rfl
  | true =>
    have := win_hi hs
    simp [hs] at h ⊢; omega
theorem nt_lt {s : Stamp} (h : (!(stampOk s) || decide (6 ≤ s.turn)) = false) : (!(stampOk s) || (s.turn == 6)) = false := by
  cases hs : stampOk s with
  | false => simp [hs] at h
  | true => simp [hs] at h ⊢; omega
theorem op_yes {g : Graph} {r : Record} (h : (!(recordOk r) || decide (((g.nodes.length : Nat) : Int) ≤ r.op)) = false) : opOk g r = true := by
  simp only [Bool.or_eq_false_iff, Bool.not_eq_false', decide_eq_false_iff_not] at h
  have h1 := h.1
  simp only [recordOk, Bool.and_eq_true, win_iff] at h1
  simp only [opOk, h.1, isNodeM, Bool.true_and, win_iff]; omega
theorem op_no {g : Graph} {r : Record} (h : (!(recordOk r) || decide (((g.nodes.length : Nat) : Int) ≤ r.op)) = true) : opOk g r = false := by
  cases h1 : recordOk r with
  | false => simp [opOk, h1]
  | true =>
    simp [h1] at h
    simp only [opOk, h1, isNodeM, Bool.true_and, win, Bool.and_eq_false_iff, decide_eq_false_iff_not]; omega
theorem bf {a : Bool} (h : a = true → False) : Value.bool false = .bool a := by cases a <;> simp_all
theorem bt {a : Bool} (h : a = true) : Value.bool true = .bool a := by rw [h]
def allR (n : Nat) (P : Nat → Bool) : Bool := (List.range n).all P
theorem allR_s {n : Nat} {P : Nat → Bool} (h : allR n P = true) (hp : P n = true) : allR (n + 1) P = true := by
  simp only [allR, List.range_succ, List.all_append] at *
  simp [h, hp]
theorem allR_get {n j : Nat} {P : Nat → Bool} (h : allR n P = true) (hj : j < n) : P j = true := List.all_eq_true.1 h j (List.mem_range.2 hj)
theorem allR_le {n m : Nat} {P : Nat → Bool} (h : allR n P = true) (hm : m ≤ n) : allR m P = true := List.all_eq_true.2 fun j hj => allR_get h (by have := List.mem_range.1 hj; omega)
theorem all_end {α : Type} {xs : List α} {p : α → Bool} {k : Nat} (hI : (xs.take k).all p = true) (h1 : xs.length ≤ k) : xs.all p = true := by rwa [List.take_of_length_le h1] at hI
def inAt (xs : List Record) (j : Nat) : Bool :=
  !((((List.getD xs j default).op != 0) || ((List.getD xs j default).stamp.turn != 0)) || (decide (0 < ((j : Nat) : Int)) && decide ((List.getD xs j default).stamp.epoch < (List.getD xs (j - 1) default).stamp.epoch)))
theorem inAt_at {xs : List Record} {j : Nat} (h : j < xs.length) : inAt xs j = !(((xs[j].op != 0) || (xs[j].stamp.turn != 0)) || (decide (0 < ((j : Nat) : Int)) && decide (xs[j].stamp.epoch < (List.getD xs (j - 1) default).stamp.epoch))) := by
  simp only [inAt, getD_at h]
def doneAtOk (xs : List Done) (j : Nat) : Bool := !(!(win (List.getD xs j default).epoch 0 3) || (xs.take j).any (fun d => d.epoch == (List.getD xs j default).epoch))
theorem doneAtOk_at {xs : List Done} {j : Nat} (h : j < xs.length) : doneAtOk xs j = !(!(win xs[j].epoch 0 3) || (xs.take j).any (fun d => d.epoch == xs[j].epoch)) := by
  simp only [doneAtOk, getD_at h]
def workerOk (g : Graph) (x : Worker) : Bool :=
  x.queue.all (opOk g) && x.staged.all (opOk g) && x.inputs.all (opOk g) && (adj x.cells).all cellLt && allR x.inputs.length (fun j => inAt x.inputs j) &&
    (((x.sums.length : Nat) : Int) == 4) && (((x.black.length : Nat) : Int) == 4) && (((x.caps.length : Nat) : Int) == 4) && x.sums.all (win · (-1000000) 1000000) && allR x.dones.length (fun j => doneAtOk x.dones j)
theorem wk_yes1 {g : Graph} {x : Worker} (h1 : (((!(x.queue.all (opOk g)) || !(x.staged.all (opOk g))) || !(x.inputs.all (opOk g))) || !((adj x.cells).all cellLt)) = false) (h2 : allR x.inputs.length (fun j => inAt x.inputs j) = true)
    (h3 : (((((x.sums.length : Nat) : Int) != 4) || (((x.black.length : Nat) : Int) != 4)) || (((x.caps.length : Nat) : Int) != 4)) = false) (h4 : x.sums.all (win · (-1000000) 1000000) = true) (h5 : allR x.dones.length (fun j => doneAtOk x.dones j) = true) :
    Value.bool true = .bool (workerOk g x) := by
  simp only [Bool.or_eq_false_iff, Bool.not_eq_false', bne_eq_false_iff_eq] at h1 h3
  obtain ⟨⟨⟨a1, a2⟩, a3⟩, a4⟩ := h1
  obtain ⟨⟨b1, b2⟩, b3⟩ := h3
  exact bt (by simp only [workerOk, a1, a2, a3, a4, h2, b1, b2, b3, h4, h5]; rfl)
section
variable {x y : Worker}
end
theorem wk_len {g : Graph} {x : Worker} (h : ((((((!(x.queue.all (opOk g)) || !(x.staged.all (opOk g))) || !(x.inputs.all (opOk g))) || !((adj x.cells).all cellLt)) || (((x.sums.length : Nat) : Int) != 4)) || (((x.black.length : Nat) : Int) != 4)) || (((x.caps.length : Nat) : Int) != 4)) = false) : x.sums.length = 4 := by
  simp at h; omega
theorem wk_yes2 {g : Graph} {x : Worker} (h : ((((((!(x.queue.all (opOk g)) || !(x.staged.all (opOk g))) || !(x.inputs.all (opOk g))) || !((adj x.cells).all cellLt)) || (((x.sums.length : Nat) : Int) != 4)) || (((x.black.length : Nat) : Int) != 4)) || (((x.caps.length : Nat) : Int) != 4)) = false) (h2 : allR x.inputs.length (fun j => inAt x.inputs j) = true)
    (h4 : x.sums.all (win · (-1000000) 1000000) = true) (h5 : allR x.dones.length (fun j => doneAtOk x.dones j) = true) : Value.bool true = .bool (workerOk g x) := by
  simp only [Bool.or_eq_false_iff, Bool.not_eq_false', bne_eq_false_iff_eq] at h
  obtain ⟨⟨⟨⟨⟨⟨a1, a2⟩, a3⟩, a4⟩, b1⟩, b2⟩, b3⟩ := h
  exact bt (by simp only [workerOk, a1, a2, a3, a4, h2, b1, b2, b3, h4, h5]; rfl)
section
variable {xs : List Done} {i j : Nat}
theorem done_s {h1 : i < xs.length} (hw : (!(win xs[i].epoch 0 3)) = false) (hJ : (xs.take j).any (fun d => d.epoch == xs[i].epoch) = false) (hj : i ≤ j) : doneAtOk xs i = true := by
  rw [doneAtOk_at h1, hw]
  have : (xs.take i).any (fun d => d.epoch == xs[i].epoch) = false := by
    rw [List.any_eq_false] at *
    intro d hd
    refine hJ d ?_
    rw [List.mem_take_iff_getElem] at *
    obtain ⟨q, hq, rfl⟩ := hd
    exact ⟨q, by omega, rfl⟩
  simp [this]
theorem done_n {h1 : i < xs.length} {h2 : j < xs.length} (h : doneAtOk xs i = true) (hj : j < i) (he : (xs[j].epoch == xs[i].epoch) = true) : False := by
  rw [doneAtOk_at h1] at h
  have : (xs.take i).any (fun d => d.epoch == xs[i].epoch) = true := by
    rw [List.any_eq_true]
    exact ⟨xs[j], by rw [List.mem_take_iff_getElem]; exact ⟨j, by omega, rfl⟩, he⟩
  simp [this] at h
end
theorem isNode_of {g : Graph} {op : Int} (h : isNodeM g op = true) : 0 ≤ op ∧ op < ((g.nodes.length : Nat) : Int) ∧ Int.toNat op < g.nodes.length := by
  simp only [isNodeM, win_iff] at h; omega
theorem isN_w {n : Nat} (h : n ≤ maxLen) : IntKind.i64.wrap (((n : Nat) : Int) - 1) = ((n : Nat) : Int) - 1 := by
  unfold maxLen at h
  rw [wrap_in (by omega) (by omega)]
def nodeOf (g : Graph) (op : Int) : Node × Bool := if isNodeM g op = true then (List.getD g.nodes (Int.toNat op) default, true) else (⟨0, 0, 0, []⟩, false)
theorem nodeOf_no {g : Graph} {op : Int} (h : isNodeM g op = false) : nodeOf g op = (⟨0, 0, 0, []⟩, false) := by simp [nodeOf, h]
theorem nodeOf_yes {g : Graph} {op : Int} (h : 0 ≤ op ∧ op < ((g.nodes.length : Nat) : Int) ∧ Int.toNat op < g.nodes.length) : nodeOf g op = (g.nodes[Int.toNat op]'h.2.2, true) := by
  have : isNodeM g op = true := by simp only [isNodeM, win_iff]; omega
  simp [nodeOf, this, List.getD, h.2.2]
theorem nodeOf_two {g : Graph} {op : Int} : (nodeOf g op).2 = isNodeM g op := by
  unfold nodeOf; cases h : isNodeM g op <;> simp
theorem mem_cnt {α : Type} {f : α → Nat} : ∀ {xs : List α} {x : α}, x ∈ xs → f x ≤ (xs.map f).sum
  | y :: ys, x, h => by
    rcases List.mem_cons.1 h with rfl | h
    · simp
    · have := mem_cnt (f := f) h; simp; omega
theorem outs_le {g : Graph} {x : Node} (h : cntGraph g ≤ 1048576) (hx : x ∈ g.nodes) : x.outs.length ≤ 1048576 := by
  have := mem_cnt (f := cntNode) hx
  simp only [cntGraph, cntL] at h
  simp only [cntNode] at this; omega
def cappedM (g : Graph) (r : Record) : Bool := ((((((nodeOf g r.op).2 && graphOk g) && recordOk r) && ((nodeOf g r.op).1.kind == 7)) && decide (0 < (((nodeOf g r.op).1.outs.length : Nat) : Int))) && !(nextT r.stamp).2)
def addOut (f : List Int) (k : Int) : List Int := if k ∈ f then f else f ++ [k]
def addOuts (f outs : List Int) : List Int := outs.foldl addOut f
def reachGo (g : Graph) : Nat → Nat → List Int → List Int
  | 0, _, f => f
  | n + 1, i, f => if i < f.length then reachGo g n (i + 1) (addOuts f (List.getD g.nodes (Int.toNat (List.getD f i default)) default).outs) else f
def reachL (g : Graph) (a : Int) : List Int := reachGo g 10 0 (List.getD g.nodes (Int.toNat a) default).outs
def reaches (g : Graph) (a b : Int) : Bool := (graphOk g && isNodeM g a) && decide (b ∈ reachL g a)
def GoodF (g : Graph) (f0 f : List Int) : Prop := (∃ nw, f = f0 ++ nw ∧ nw.Nodup) ∧ ∀ x ∈ f, 0 ≤ x ∧ x < ((g.nodes.length : Nat) : Int)
section
variable {g : Graph} {f0 f f2 outs : List Int} {i j n : Nat} {a b k : Int}
theorem gok_len (h : graphOk g = true) : 1 ≤ g.nodes.length ∧ g.nodes.length ≤ 8 := by
  simp only [graphOk, headBad, Bool.and_eq_true, Bool.not_eq_true', Bool.or_eq_false_iff, Bool.not_eq_false'] at h
  have := win_iff.1 h.1.1.1; omega
theorem gok_at (h : graphOk g = true) (hi : i < g.nodes.length) : nodeAtOk g i g.nodes[i] = true := by
  simp only [graphOk, Bool.and_eq_true] at h
  have := List.all_eq_true.1 h.2 i (List.mem_range.2 hi)
  rwa [getD_at hi] at this
theorem gok_outs (h : graphOk g = true) (hi : i < g.nodes.length) : ∀ x ∈ g.nodes[i].outs, 0 ≤ x ∧ x < ((g.nodes.length : Nat) : Int) := fun x hx => by
  have hn := gok_at h hi
  simp only [nodeAtOk, atOk, Bool.and_eq_true, Bool.not_eq_true', Bool.or_eq_false_iff, Bool.not_eq_false'] at hn
  have h1 := hn.1.1
  simp only [nodeOk, Bool.and_eq_true] at h1
  have h2 := win_iff.1 (List.all_eq_true.1 h1.2 x hx)
  have h3 := List.all_eq_true.1 hn.2 x hx
  simp only [edgeBad, Bool.not_eq_true', Bool.or_eq_false_iff, decide_eq_false_iff_not] at h3
  omega
theorem outs_two (h : graphOk g = true) (hi : i < g.nodes.length) : (List.getD g.nodes i default).outs.length ≤ 2 := by
  have hn := gok_at h hi
  simp only [nodeAtOk, atOk, Bool.and_eq_true, Bool.not_eq_true', Bool.or_eq_false_iff, Bool.not_eq_false'] at hn
  have h1 := hn.1.1
  simp only [nodeOk, nodeT, Bool.and_eq_true, Bool.not_eq_true', Bool.or_eq_false_iff, decide_eq_false_iff_not] at h1
  rw [getD_at hi]; omega
end
def hasLoopM (g : Graph) : Bool := !allR g.nodes.length (fun j => !reaches g ((j : Nat) : Int) ((j : Nat) : Int))
def numNd (k : Nat) (x : Node) : Nat := k + 1 * x.outs.length
def markNd (k : Nat) (x : Node) : Node := ⟨x.kind, x.a, x.b, mkL 1 mkInt k x.outs.length⟩
def markN1 (k : Nat) (x : Node) : Node := ⟨((k : Nat) : Int), ((k + 1 : Nat) : Int), ((k + 1 + 1 : Nat) : Int), mkL 1 mkInt (k + 1 + 1 + 1) x.outs.length⟩
def numN1 (k : Nat) (x : Node) : Nat := k + 1 + 1 + 1 + 1 * x.outs.length
def numA {α : Type} (n : Nat → α → Nat) : Nat → List α → Nat
  | k, [] => k
  | k, x :: xs => numA n (n k x) xs
def markA {α : Type} (n : Nat → α → Nat) (m : Nat → α → α) : Nat → List α → List α
  | _, [] => []
  | k, x :: xs => m k x :: markA n m (n k x) xs
section
variable {α : Type} {n : Nat → α → Nat} {m : Nat → α → α} {cnt : α → Nat} {c : Nat}
end
def numL1 (k : Nat) (x : Link) : Nat := k + 1 + 5 * x.queue.length + 1 + 1 + 1 + 1
def markL1 (k : Nat) (x : Link) : Link := ⟨((k : Nat) : Int), mkL 5 mkRecord (k + 1) x.queue.length, ((k + 1 + 5 * x.queue.length : Nat) : Int), ((k + 1 + 5 * x.queue.length + 1 : Nat) : Int), ((k + 1 + 5 * x.queue.length + 1 + 1 : Nat) : Int), ((k + 1 + 5 * x.queue.length + 1 + 1 + 1 : Nat) : Int)⟩
def numCl (k : Nat) (x : Cluster) : Nat := numA numL1 (numA numW (numA numN1 k x.graph.nodes) x.workers) x.links + 5 * x.tokens.length + 3 * x.news.length
def markCl (k : Nat) (x : Cluster) : Cluster :=
  ⟨⟨markA numN1 markN1 k x.graph.nodes, x.graph.workers, x.graph.cap⟩, markA numW markW (numA numN1 k x.graph.nodes) x.workers, markA numL1 markL1 (numA numW (numA numN1 k x.graph.nodes) x.workers) x.links,
    mkL 5 mkToken (numA numL1 (numA numW (numA numN1 k x.graph.nodes) x.workers) x.links) x.tokens.length, mkL 3 mkNews (numA numL1 (numA numW (numA numN1 k x.graph.nodes) x.workers) x.links + 5 * x.tokens.length) x.news.length⟩
def outsTo (g : Graph) (k : Nat) : List Int := ((List.range k).filter (fun i => (List.getD g.nodes i default).kind == 8)).map fun i => ((i : Nat) : Int)
def outOf (g : Graph) (x : Cell) : Bool := isNodeM g x.op && ((List.getD g.nodes (Int.toNat x.op) default).kind == 8)
def workerNew (xs : List Record) : Worker := ⟨[], [], xs, [], [0, 0, 0, 0], [false, false, false, false], [false, false, false, false], []⟩
def keptW (x : Worker) (r : Record) : Worker := ⟨x.queue ++ [r], x.staged, x.inputs, x.cells, x.sums, x.black, x.caps, x.dones⟩
theorem cnt_kept (x : Worker) (r : Record) : cntWorker (keptW x r) = cntWorker x + 1 := by simp [cntWorker, keptW]; omega
theorem cnt_new (xs : List Record) : cntWorker (workerNew xs) = xs.length + 12 := by simp [cntWorker, workerNew]
theorem sent_of {n : Nat} {e : Int} (hm : n ≤ maxLen) (h : win e 0 (IntKind.i64.wrap (((n : Nat) : Int) - 1)) = true) : 0 ≤ e ∧ e < ((n : Nat) : Int) ∧ Int.toNat e < n := by
  rw [isN_w hm] at h
  have := win_iff.1 h
  omega
def sentW (x : Worker) (e : Int) : Worker := if 0 ≤ e ∧ e < ((x.sums.length : Nat) : Int) then ⟨x.queue, x.staged, x.inputs, x.cells, x.sums.set (Int.toNat e) (IntKind.i64.wrap (List.getD x.sums (Int.toNat e) default + 1)), x.black, x.caps, x.dones⟩ else x
def recvOk (x : Worker) (r : Record) : Prop := 0 ≤ r.stamp.epoch ∧ r.stamp.epoch < ((x.sums.length : Nat) : Int) ∧ r.stamp.epoch < ((x.black.length : Nat) : Int) ∧ Int.toNat r.stamp.epoch < x.sums.length ∧ Int.toNat r.stamp.epoch < x.black.length
instance (x : Worker) (r : Record) : Decidable (recvOk x r) := by unfold recvOk; infer_instance
def recvW (x : Worker) (r : Record) : Worker := if recvOk x r then ⟨x.queue ++ [r], x.staged, x.inputs, x.cells, x.sums.set (Int.toNat r.stamp.epoch) (IntKind.i64.wrap (List.getD x.sums (Int.toNat r.stamp.epoch) default - 1)), x.black.set (Int.toNat r.stamp.epoch) true, x.caps, x.dones⟩ else keptW x r
theorem recvW_yes {x : Worker} {r : Record} (h : recvOk x r) : recvW x r = ⟨x.queue ++ [r], x.staged, x.inputs, x.cells, x.sums.set (Int.toNat r.stamp.epoch) (IntKind.i64.wrap ((x.sums[Int.toNat r.stamp.epoch]'h.2.2.2.1) - 1)), x.black.set (Int.toNat r.stamp.epoch) true, x.caps, x.dones⟩ := by
  rw [recvW, if_pos h, getD_at h.2.2.2.1]
theorem recvW_no {x : Worker} {r : Record} (h : ¬ recvOk x r) : recvW x r = keptW x r := by rw [recvW, if_neg h]
theorem recv_s {x : Worker} {r : Record} (h1 : x.sums.length ≤ maxLen) (h : (win r.stamp.epoch 0 (IntKind.i64.wrap (((x.sums.length : Nat) : Int) - 1)) && decide (r.stamp.epoch < ((x.black.length : Nat) : Int))) = true) : recvOk x r := by
  simp only [Bool.and_eq_true, decide_eq_true_eq] at h
  have := sent_of h1 h.1
  unfold recvOk; omega
theorem recv_sn {x : Worker} {r : Record} (h1 : x.sums.length ≤ maxLen) (h : (win r.stamp.epoch 0 (IntKind.i64.wrap (((x.sums.length : Nat) : Int) - 1)) && decide (r.stamp.epoch < ((x.black.length : Nat) : Int))) = false) : ¬ recvOk x r := fun hx => by
  unfold recvOk at hx
  rw [isN_w h1, win_iff.2 ⟨hx.1, by omega⟩, Bool.true_and, decide_eq_false_iff_not] at h
  exact h hx.2.2.1
theorem cnt_recv (x : Worker) (r : Record) : cntWorker (recvW x r) = cntWorker x + 1 := by unfold recvW; split <;> simp [cntWorker, keptW] <;> omega
section
variable {x y : Cluster}
end
def goN (xs : List Token) : Nat := (xs.filter (fun t => t.going)).length
def defS (e n : Int) (x : Worker) : Int := if 0 ≤ e ∧ e < ((x.sums.length : Nat) : Int) then IntKind.i64.wrap (n + List.getD x.sums (Int.toNat e) default) else n
def defTo (c : Cluster) (e : Int) (k : Nat) : Int := (c.workers.take k).foldl (defS e) 0
def linkOk (l : Link) : Bool := (((((((win l.cap 1 4 && win l.credits 0 l.cap) && win l.back 0 l.cap) && (IntKind.i64.wrap (IntKind.i64.wrap (l.credits + l.back) + ((l.queue.length : Nat) : Int)) == l.cap)) && win l.sent 0 1000000000) && (l.got == l.sent - ((l.queue.length : Nat) : Int))) && decide (0 ≤ l.got)) && l.queue.all recordOk)
section
variable {x : Link}
end
def lkBad (g : Graph) (k : Nat) (l : Link) : Bool := ((!(linkOk l) || (l.cap != g.cap)) || !(l.queue.all (opOk g))) || ((IntKind.i64.wrap (Int.tdiv ((k : Nat) : Int) g.workers) == Int.tmod ((k : Nat) : Int) g.workers) && decide (0 < ((l.queue.length : Nat) : Int)))
def tkBad (g : Graph) (t : Token) : Bool := (!(win t.place 0 (IntKind.i64.wrap (g.workers - 1))) || (!t.going && (t.place != 0))) || !(win t.sum (-1000000) 1000000)
def nwBad (g : Graph) (t : News) : Bool := !(win t.dest 0 (IntKind.i64.wrap (g.workers - 1))) || !(win t.epoch 0 3)
def clHead (c : Cluster) : Bool := ((!(graphOk c.graph) || (((c.workers.length : Nat) : Int) != c.graph.workers)) || (((c.links.length : Nat) : Int) != IntKind.i64.wrap (c.graph.workers * c.graph.workers))) || (((c.tokens.length : Nat) : Int) != 4)
def clOk (c : Cluster) : Bool := !(clHead c) && c.workers.all (workerOk c.graph) && allR c.links.length (fun j => !lkBad c.graph j (List.getD c.links j default)) && c.tokens.all (fun t => !tkBad c.graph t) && c.news.all (fun t => !nwBad c.graph t)
section
variable {x : Cluster} {k : Nat}
end
section
variable {α : Type} {xs ys : List α} {p : α → Bool} {i j : Nat}
end
def putLt (x y : Cell) : Bool := decide (cellOrd y x < 0)
def putAt (xs : List Cell) (x : Cell) : Nat := xs.findIdx (fun y => !(putLt x y))
def putM (xs : List Cell) (x : Cell) : List Cell := if x ∈ xs then xs else insM xs (putAt xs x) x
section
variable {xs : List Cell} {x : Cell} {k : Nat}
theorem putM_yes (h : decide (x ∈ xs) = true) : putM xs x = xs := by rw [putM, if_pos (of_decide_eq_true h)]
theorem put_lt (h : (decide (((k : Nat) : Int) < ((xs.length : Nat) : Int)) && decide (cellOrd (List.getD xs k default) x < 0)) = true) : k < xs.length := by
  have := of_decide_eq_true (Bool.and_eq_true _ _ ▸ h).1
  omega
theorem put_step (hI : (xs.take k).all (putLt x) = true) (h : (decide (((k : Nat) : Int) < ((xs.length : Nat) : Int)) && decide (cellOrd (List.getD xs k default) x < 0)) = true) : (xs.take (k + 1)).all (putLt x) = true := by
  have hk := put_lt h
  refine all_step hI hk ?_
  have := (Bool.and_eq_true _ _ ▸ h).2
  rw [getD_at hk] at this
  exact this
theorem put_at (hI : (xs.take k).all (putLt x) = true) (hk : k ≤ xs.length) (h : (decide (((k : Nat) : Int) < ((xs.length : Nat) : Int)) && decide (cellOrd (List.getD xs k default) x < 0)) = false) : putAt xs x = k := by
  have hlt : ∀ j, j < k → ∀ hj : j < xs.length, putLt x xs[j] = true := fun j h1 hj => List.all_eq_true.1 hI _ (List.mem_take_iff_getElem.2 ⟨j, by omega, rfl⟩)
  unfold putAt
  by_cases hkl : k < xs.length
  · rw [List.findIdx_eq hkl]
    refine ⟨?_, fun j hj => by rw [hlt j hj (by omega)]; rfl⟩
    simp only [show decide (((k : Nat) : Int) < ((xs.length : Nat) : Int)) = true from decide_eq_true (by omega), Bool.true_and] at h
    rw [getD_at hkl] at h
    show (!(decide (cellOrd xs[k] x < 0))) = true
    rw [h]; rfl
  · obtain rfl : k = xs.length := by omega
    rw [List.findIdx_eq_length_of_false]
    intro y hy
    obtain ⟨j, hj, rfl⟩ := List.getElem_of_mem hy
    rw [hlt j hj hj]; rfl
theorem putM_no (hn : decide (x ∈ xs) = false) (hI : (xs.take k).all (putLt x) = true) (hk : k ≤ xs.length) (h : (decide (((k : Nat) : Int) < ((xs.length : Nat) : Int)) && decide (cellOrd (List.getD xs k default) x < 0)) = false) : putM xs x = insM xs k x := by
  rw [putM, if_neg (of_decide_eq_false hn), put_at hI hk h]
end
theorem putM_len (xs : List Cell) (x : Cell) : (putM xs x).length ≤ xs.length + 1 := by
  unfold putM
  split
  · omega
  · simp [insM]; omega
def betterM (xs : List Cell) (x : Cell) : List Cell × Bool :=
  if ((leastM xs x.op x.epoch x.key).2 && decide ((leastM xs x.op x.epoch x.key).1 ≤ x.val)) = true then (xs, false) else (putM (xs.filter (fun y => !(slot x y))) x, true)
def recallM (kind : Int) (xs : List Cell) (x : Cell) : List Cell × Bool :=
  if (kind == 5) = true ∨ (kind == 8) = true then betterM xs x else if (kind == 6) = true then (putM xs x, !decide (x ∈ xs)) else (xs, true)
section
variable {kind : Int} {xs : List Cell} {x y : Cell}
theorem betterM_yes (h : ((leastM xs x.op x.epoch x.key).2 && decide ((leastM xs x.op x.epoch x.key).1 ≤ x.val)) = true) : betterM xs x = (xs, false) := by rw [betterM, if_pos h]
theorem betterM_no (h : ((leastM xs x.op x.epoch x.key).2 && decide ((leastM xs x.op x.epoch x.key).1 ≤ x.val)) = false) : betterM xs x = (putM (xs.filter (fun y => !(slot x y))) x, true) := by rw [betterM, if_neg (by rw [h]; simp)]
theorem recallM_b (h : (kind == 5) = true ∨ (kind == 8) = true) : recallM kind xs x = betterM xs x := by rw [recallM, if_pos h]
theorem six_not (h : (kind == 6) = true) : ¬ ((kind == 5) = true ∨ (kind == 8) = true) := by
  simp only [beq_iff_eq] at *; omega
theorem recallM_n (h : (kind == 6) = true) : recallM kind xs x = (putM xs x, !decide (x ∈ xs)) := by rw [recallM, if_neg (six_not h), if_pos h]
theorem recallM_h (h : (kind == 6) = true) (hm : decide (x ∈ xs) = true) : recallM kind xs x = (xs, false) := by rw [recallM_n h, putM_yes hm, hm]; rfl
theorem recallM_i (h : (kind == 6) = true) (hm : decide (x ∈ xs) = false) : recallM kind xs x = (putM xs x, true) := by rw [recallM_n h, hm]; rfl
theorem recallM_o (h5 : (kind == 5) = false) (h8 : (kind == 8) = false) (h6 : (kind == 6) = false) : recallM kind xs x = (xs, true) := by
  rw [recallM, if_neg (by simp [h5, h8]), if_neg (by simp [h6])]
theorem betterM_len : (betterM xs x).1.length ≤ xs.length + 1 := by
  unfold betterM
  split
  · simp
  · exact Nat.le_trans (putM_len _ _) (by have := List.length_filter_le (fun y => !(slot x y)) xs; omega)
theorem recallM_len (kind : Int) (xs : List Cell) (x : Cell) : (recallM kind xs x).1.length ≤ xs.length + 1 := by
  unfold recallM
  split
  · exact betterM_len
  · split
    · exact putM_len _ _
    · simp
theorem ns_eq : (((y.op != x.op) || (y.epoch != x.epoch)) || (y.key != x.key)) = !(slot x y) := by
  unfold slot
  rw [Bool.eq_iff_iff]
  simp [bne, Bool.not_and]
  constructor <;> intro h <;> omega
theorem ns_yes (h : (((y.op != x.op) || (y.epoch != x.epoch)) || (y.key != x.key)) = true) : (fun y => !(slot x y)) y = true := by rw [ns_eq] at h; exact h
theorem ns_no (h : (((y.op != x.op) || (y.epoch != x.epoch)) || (y.key != x.key)) = false) : (fun y => !(slot x y)) y = false := by rw [ns_eq] at h; exact h
end
def changedM (x : Node) (a b : Int) : Int × Int × Bool :=
  if (!(nodeOk x) || !(win a 0 99 && win b 0 999)) = true then (a, b, false)
  else if (x.kind == 2) = true then (a, (if IntKind.i64.wrap (b + x.a) < 999 then IntKind.i64.wrap (b + x.a) else 999), true)
  else if (x.kind == 4) = true then (Int.tmod (IntKind.i64.wrap (a + x.a)) 100, b, true)
  else if (x.kind == 3) = true then (a, b, Int.tmod a x.a == x.b)
  else (a, b, x.kind != 8)
section
variable {x : Node} {a b : Int}
theorem ch_0 (h : (!(nodeOk x) || !(win a 0 99 && win b 0 999)) = true) : changedM x a b = (a, b, false) := by rw [changedM, if_pos h]
theorem nof {p : Bool} (h : p = false) : ¬ p = true := by rw [h]; simp
theorem ch_2 (h : (!(nodeOk x) || !(win a 0 99 && win b 0 999)) = false) (h2 : (x.kind == 2) = true) : changedM x a b = (a, (if IntKind.i64.wrap (b + x.a) < 999 then IntKind.i64.wrap (b + x.a) else 999), true) := by rw [changedM, if_neg (nof h), if_pos h2]
theorem kind_n {n m : Int} (h : (x.kind == n) = true) (hn : n ≠ m) : ¬ (x.kind == m) = true := by simp only [beq_iff_eq] at *; omega
theorem ch_4 (h : (!(nodeOk x) || !(win a 0 99 && win b 0 999)) = false) (h4 : (x.kind == 4) = true) : changedM x a b = (Int.tmod (IntKind.i64.wrap (a + x.a)) 100, b, true) := by
  rw [changedM, if_neg (nof h), if_neg (kind_n h4 (by decide)), if_pos h4]
theorem ch_3 (h : (!(nodeOk x) || !(win a 0 99 && win b 0 999)) = false) (h3 : (x.kind == 3) = true) : changedM x a b = (a, b, Int.tmod a x.a == x.b) := by
  rw [changedM, if_neg (nof h), if_neg (kind_n h3 (by decide)), if_neg (kind_n h3 (by decide)), if_pos h3]
theorem ch_o (h : (!(nodeOk x) || !(win a 0 99 && win b 0 999)) = false) (h2 : (x.kind == 2) = false) (h4 : (x.kind == 4) = false) (h3 : (x.kind == 3) = false) : changedM x a b = (a, b, x.kind != 8) := by
  rw [changedM, if_neg (nof h), if_neg (nof h2), if_neg (nof h4), if_neg (nof h3)]
theorem ch_s (h : ((!(nodeOk x) || !(win a 0 99)) || !(win b 0 999)) = false) : (!(nodeOk x) || !(win a 0 99 && win b 0 999)) = false := by
  revert h; cases nodeOk x <;> cases win a 0 99 <;> cases win b 0 999 <;> simp
theorem ch_st (h : ((!(nodeOk x) || !(win a 0 99)) || !(win b 0 999)) = true) : (!(nodeOk x) || !(win a 0 99 && win b 0 999)) = true := by
  revert h; cases nodeOk x <;> cases win a 0 99 <;> cases win b 0 999 <;> simp
theorem ch_ok (h : (!(nodeOk x) || !(win a 0 99 && win b 0 999)) = false) : nodeOk x = true := by
  simpa using (Bool.or_eq_false_iff.1 h).1
theorem node_a3 (h : nodeOk x = true) (h3 : (x.kind == 3) = true) : 1 ≤ x.a ∧ x.a ≤ 10 := by
  simp only [nodeOk, Bool.and_eq_true] at h
  have := h.1.1
  rw [node_3 h3, Bool.and_eq_true] at this
  exact win_iff.1 this.1
theorem min_999 {n : Int} : (if n < 999 then n else 999) = (if 999 < n then 999 else n) := by split <;> split <;> omega
end
def impBad (g : Graph) (x : Cell) : Bool := ((!(graphOk g) || !(isNodeM g x.op)) || !(win x.epoch 0 3)) || !(win x.key 0 99 && win x.val 0 999)
def impCh (g : Graph) (x : Cell) : Int × Int × Bool := changedM (List.getD g.nodes (Int.toNat x.op) default) x.key x.val
def impTo (g : Graph) (x : Cell) (k : Nat) : List Cell := ((List.getD g.nodes (Int.toNat x.op) default).outs.take k).map fun n => ⟨n, x.epoch, (impCh g x).1, (impCh g x).2.1⟩
def improveM (g : Graph) (best : List Cell) (x : Cell) : List Cell × List Cell :=
  if impBad g x = true then (best, []) else if (!((betterM best x).2) || !((impCh g x).2.2)) = true then ((betterM best x).1, []) else ((betterM best x).1, impTo g x (List.getD g.nodes (Int.toNat x.op) default).outs.length)
section
variable {g : Graph} {xs : List Cell} {x : Cell} {k : Nat}
theorem imp_of (h : impBad g x = false) : graphOk g = true ∧ isNodeM g x.op = true := by
  simp only [impBad, Bool.or_eq_false_iff, Bool.not_eq_false'] at h
  exact h.1.1
theorem imp_0 (h : impBad g x = true) : improveM g xs x = (xs, []) := by rw [improveM, if_pos h]
theorem impTo_len (g : Graph) (x : Cell) (k : Nat) : (impTo g x k).length ≤ k := by simp only [impTo, List.length_map, List.length_take]; omega
theorem improve_len1 : (improveM g xs x).1.length ≤ xs.length + 1 := by
  unfold improveM
  split
  · simp
  · split <;> exact betterM_len
theorem improve_len2 : (improveM g xs x).2.length ≤ 2 := by
  unfold improveM
  split
  · simp
  · rename_i h
    split
    · simp
    · have hq := imp_of (Bool.eq_false_iff.2 h)
      have := outs_two (i := Int.toNat x.op) hq.1 (isNode_of hq.2).2.2
      exact Nat.le_trans (impTo_len _ _ _) this
end
section
variable {g : Graph} {xs : List Cell} {x : Cell} {k : Nat}
theorem nodeOf_1 {op : Int} (h : isNodeM g op = true) : (nodeOf g op).1 = List.getD g.nodes (Int.toNat op) default := by rw [nodeOf, if_pos h]
theorem better_no (h : (betterM xs x).2 = false) : (betterM xs x).1 = xs := by
  unfold betterM at *
  split at h
  · rename_i hq; rw [if_pos hq]
  · cases h
theorem not_t {p : Bool} (h : (!p) = true) : p = false := by simpa using h
theorem not_f {p : Bool} (h : (!p) = false) : p = true := by simpa using h
def icP (g : Graph) (xs : List Cell) (x : Cell) : Bool := ((improveM g [] x).2).all (nwP xs)
def isClosedM (g : Graph) (xs : List Cell) : Bool := graphOk g && xs.all (icP g xs)
end
def unstM (x : Worker) : Worker × Record × Bool := if x.staged.length = 0 then (x, ⟨0, ⟨0, 0⟩, 0, 0⟩, false) else (⟨x.queue, x.staged.drop 1, x.inputs, x.cells, x.sums, x.black, x.caps, x.dones⟩, List.getD x.staged 0 default, true)
theorem unst_no {x : Worker} (h : (((x.staged.length : Nat) : Int) == 0) = true) : unstM x = (x, ⟨0, ⟨0, 0⟩, 0, 0⟩, false) := by
  have h0 : x.staged.length = 0 := by have := eq_of_beq h; omega
  rw [unstM, if_pos h0]
theorem unst_lt {x : Worker} (h : (((x.staged.length : Nat) : Int) == 0) = false) : 0 < x.staged.length := by
  have h0 : ((x.staged.length : Nat) : Int) ≠ 0 := fun e => by rw [e] at h; cases h
  omega
theorem unst_yes {x : Worker} (h : 0 < x.staged.length) : unstM x = (⟨x.queue, x.staged.drop 1, x.inputs, x.cells, x.sums, x.black, x.caps, x.dones⟩, x.staged[0], true) := by
  rw [unstM, if_neg (by omega), getD_at h]
theorem cnt_unst (x : Worker) : cntWorker (unstM x).1 ≤ cntWorker x := by
  unfold unstM
  split
  · exact Nat.le_refl _
  · simp [cntWorker]
def takeBad (g : Graph) (x : Worker) : Bool := ((((!(graphOk g) || !(workerOk g x)) || (decide (0 < ((x.staged.length : Nat) : Int)))) || (decide (0 < ((x.queue.length : Nat) : Int)))) || (((x.inputs.length : Nat) : Int) == 0))
def takeM (g : Graph) (x : Worker) : Worker × Bool := if takeBad g x = true then (x, false) else (⟨x.queue ++ [List.getD x.inputs 0 default], x.staged, x.inputs.drop 1, x.cells, x.sums, x.black, x.caps, x.dones⟩, true)
section
variable {g : Graph} {x : Worker}
theorem take_no (h : takeBad g x = true) : takeM g x = (x, false) := by rw [takeM, if_pos h]
theorem take_lt (h : takeBad g x = false) : 0 < x.inputs.length := by
  have h1 := (Bool.or_eq_false_iff.1 h).2
  have h0 : ((x.inputs.length : Nat) : Int) ≠ 0 := fun e => by rw [e] at h1; cases h1
  omega
theorem take_yes (h : takeBad g x = false) (hl : 0 < x.inputs.length) : takeM g x = (⟨x.queue ++ [x.inputs[0]], x.staged, x.inputs.drop 1, x.cells, x.sums, x.black, x.caps, x.dones⟩, true) := by
  rw [takeM, if_neg (nof h), getD_at hl]
theorem cnt_take : cntWorker (takeM g x).1 ≤ cntWorker x := by
  unfold takeM
  split
  · exact Nat.le_refl _
  · rename_i h
    have := take_lt (Bool.eq_false_iff.2 h)
    simp [cntWorker]; omega
end
def stBad (g : Graph) (r : Record) : Bool := (!(graphOk g) || !(recordOk r)) || !(isNodeM g r.op)
def stNode (g : Graph) (r : Record) : Node := List.getD g.nodes (Int.toNat r.op) default
def stCh (g : Graph) (r : Record) : Int × Int × Bool := changedM (stNode g r) r.key r.val
def stRec (g : Graph) (cs : List Cell) (r : Record) : List Cell × Bool := recallM (stNode g r).kind cs ⟨r.op, r.stamp.epoch, r.key, r.val⟩
def stTo (g : Graph) (r : Record) (s : Stamp) (k : Nat) : List Record := ((stNode g r).outs.take k).map fun n => ⟨n, s, (stCh g r).1, (stCh g r).2.1⟩
def stStamp (g : Graph) (r : Record) : Stamp × Bool := if ((stNode g r).kind == 7) = true then nextT r.stamp else (r.stamp, true)
def stepM (g : Graph) (cs : List Cell) (r : Record) : List Cell × List Record × Bool :=
  if stBad g r = true then (cs, [], false)
  else if (!((stCh g r).2.2) && ((stNode g r).kind != 8)) = true then (cs, [], true)
  else if (!((stRec g cs r).2)) = true then ((stRec g cs r).1, [], true)
  else ((stRec g cs r).1, if (stStamp g r).2 = true then stTo g r (stStamp g r).1 (stNode g r).outs.length else [], true)
def stOut (g : Graph) (r : Record) (k : Nat) : List Record := if (stStamp g r).2 = true then stTo g r (stStamp g r).1 k else []
section
variable {g : Graph} {cs : List Cell} {r : Record} {x : Node} {k : Nat}
theorem st_of (h : stBad g r = false) : graphOk g = true ∧ isNodeM g r.op = true := by
  simp only [stBad, Bool.or_eq_false_iff, Bool.not_eq_false'] at h
  exact ⟨h.1.1, h.2⟩
theorem st_0 (h : stBad g r = true) : stepM g cs r = (cs, [], false) := by rw [stepM, if_pos h]
theorem st_1 (h : stBad g r = false) (hx : x = stNode g r) (hc : (!((changedM x r.key r.val).2.2) && (x.kind != 8)) = true) : stepM g cs r = (cs, [], true) := by
  subst hx
  have hc' : (!((stCh g r).2.2) && ((stNode g r).kind != 8)) = true := hc
  rw [stepM, if_neg (nof h), if_pos hc']
theorem st_2 (h : stBad g r = false) (hx : x = stNode g r) (hc : (!((changedM x r.key r.val).2.2) && (x.kind != 8)) = false) (hq : (!((recallM x.kind cs ⟨r.op, r.stamp.epoch, r.key, r.val⟩).2)) = true) : stepM g cs r = ((recallM x.kind cs ⟨r.op, r.stamp.epoch, r.key, r.val⟩).1, [], true) := by
  subst hx
  have hc' : (!((stCh g r).2.2) && ((stNode g r).kind != 8)) = false := hc
  have hq' : (!((stRec g cs r).2)) = true := hq
  rw [stepM, if_neg (nof h), if_neg (nof hc'), if_pos hq']; rfl
theorem st_3 (h : stBad g r = false) (hx : x = stNode g r) (hc : (!((changedM x r.key r.val).2.2) && (x.kind != 8)) = false) (hq : (!((recallM x.kind cs ⟨r.op, r.stamp.epoch, r.key, r.val⟩).2)) = false) : stepM g cs r = ((recallM x.kind cs ⟨r.op, r.stamp.epoch, r.key, r.val⟩).1, stOut g r x.outs.length, true) := by
  subst hx
  have hc' : (!((stCh g r).2.2) && ((stNode g r).kind != 8)) = false := hc
  have hq' : (!((stRec g cs r).2)) = false := hq
  rw [stepM, if_neg (nof h), if_neg (nof hc'), if_neg (nof hq')]; rfl
theorem stamp_7 (hx : x = stNode g r) (h : (x.kind == 7) = true) : stStamp g r = nextT r.stamp := by subst hx; rw [stStamp, if_pos h]
theorem stamp_o (hx : x = stNode g r) (h : (x.kind == 7) = false) : stStamp g r = (r.stamp, true) := by subst hx; rw [stStamp, if_neg (nof h)]
theorem out_zero : (stOut g r 0).flatMap Enc.enc = [] := by unfold stOut; split <;> simp [stTo]
theorem out_step {s : Stamp} (hs : (stStamp g r).1 = s) (hok : (stStamp g r).2 = true) (hx : x = stNode g r) (hk : k < x.outs.length) : (stOut g r k).flatMap Enc.enc ++ Enc.enc (⟨x.outs[k], s, (changedM x r.key r.val).1, (changedM x r.key r.val).2.1⟩ : Record) = (stOut g r (k + 1)).flatMap Enc.enc := by
  subst hx hs
  simp only [stOut, if_pos hok, stTo, stCh]
  rw [List.take_succ_eq_append_getElem hk, List.map_append, List.flatMap_append]; simp
theorem out_no (hok : (stStamp g r).2 = false) : stOut g r k = [] := by unfold stOut; rw [if_neg (nof hok)]
theorem out_len (g : Graph) (r : Record) (k : Nat) : (stOut g r k).length ≤ k := by
  unfold stOut
  split
  · simp only [stTo, List.length_map, List.length_take]; omega
  · simp
theorem rec_no (h : ((x.kind == 5) || (x.kind == 6) || (x.kind == 8)) = false) (c : Cell) : recallM x.kind cs c = (cs, true) := by
  simp only [Bool.or_eq_false_iff] at h
  exact recallM_o h.1.1 h.2 h.1.2
theorem step_len1 : (stepM g cs r).1.length ≤ cs.length + 1 := by
  unfold stepM
  split
  · simp
  · split
    · simp
    · split <;> exact recallM_len _ _ _
theorem step_len2 : (stepM g cs r).2.1.length ≤ 2 := by
  unfold stepM
  split
  · simp
  · rename_i h
    have hq := st_of (Bool.eq_false_iff.2 h)
    have := outs_two (i := Int.toNat r.op) hq.1 (isNode_of hq.2).2.2
    split
    · simp
    · split
      · simp
      · exact Nat.le_trans (out_len g r _) this
end
section
variable {g : Graph} {cs : List Cell} {r : Record}
theorem st_sp : ((!((nodeOf g r.op).2) || !(graphOk g)) || !(recordOk r)) = stBad g r := by
  rw [nodeOf_two, stBad]
  cases graphOk g <;> cases isNodeM g r.op <;> cases recordOk r <;> rfl
theorem st_spt (h : ((!((nodeOf g r.op).2) || !(graphOk g)) || !(recordOk r)) = true) : stBad g r = true := by rw [st_sp] at h; exact h
theorem st_spf (h : ((!((nodeOf g r.op).2) || !(graphOk g)) || !(recordOk r)) = false) : stBad g r = false := by rw [st_sp] at h; exact h
end
def workBad (g : Graph) (x : Worker) : Bool := (((!(graphOk g) || !(workerOk g x)) || (decide (0 < ((x.staged.length : Nat) : Int)))) || (((x.queue.length : Nat) : Int) == 0))
def workR (x : Worker) : Record := List.getD x.queue 0 default
def workM (g : Graph) (x : Worker) : Worker × Bool := if workBad g x = true then (x, false) else
  (⟨x.queue.drop 1, (stepM g x.cells (workR x)).2.1, x.inputs, (stepM g x.cells (workR x)).1, x.sums, x.black, if cappedM g (workR x) = true then x.caps.set (Int.toNat (workR x).stamp.epoch) true else x.caps, x.dones⟩, true)
section
variable {g : Graph} {x : Worker}
theorem work_no (h : workBad g x = true) : workM g x = (x, false) := by rw [workM, if_pos h]
theorem work_lt (h : workBad g x = false) : 0 < x.queue.length := by
  have h1 := (Bool.or_eq_false_iff.1 h).2
  have h0 : ((x.queue.length : Nat) : Int) ≠ 0 := fun e => by rw [e] at h1; cases h1
  omega
theorem work_c (h : workBad g x = false) (hl : 0 < x.queue.length) (hc : cappedM g x.queue[0] = true) : workM g x = (⟨x.queue.drop 1, (stepM g x.cells x.queue[0]).2.1, x.inputs, (stepM g x.cells x.queue[0]).1, x.sums, x.black, x.caps.set (Int.toNat x.queue[0].stamp.epoch) true, x.dones⟩, true) := by
  have hr : workR x = x.queue[0] := getD_at hl
  rw [workM, if_neg (nof h), hr, if_pos hc]
theorem work_n (h : workBad g x = false) (hl : 0 < x.queue.length) (hc : cappedM g x.queue[0] = false) : workM g x = (⟨x.queue.drop 1, (stepM g x.cells x.queue[0]).2.1, x.inputs, (stepM g x.cells x.queue[0]).1, x.sums, x.black, x.caps, x.dones⟩, true) := by
  have hr : workR x = x.queue[0] := getD_at hl
  rw [workM, if_neg (nof h), hr, if_neg (nof hc)]
theorem work_cap (h : workBad g x = false) (hl : 0 < x.queue.length) (hc : cappedM g x.queue[0] = true) : 0 ≤ x.queue[0].stamp.epoch ∧ Int.toNat x.queue[0].stamp.epoch < x.caps.length := by
  simp only [workBad, Bool.or_eq_false_iff, Bool.not_eq_false'] at h
  have hw := h.1.1.2
  simp only [workerOk, Bool.and_eq_true, beq_iff_eq] at hw
  have h8 := hw.1.1.2
  simp only [cappedM, Bool.and_eq_true] at hc
  have hr := hc.1.1.1.2
  simp only [recordOk, stampOk, Bool.and_eq_true, win_iff] at hr
  omega
theorem cnt_work : cntWorker (workM g x).1 ≤ cntWorker x + 3 := by
  unfold workM
  split
  · exact Nat.le_add_right _ _
  · have h1 := @step_len1 g x.cells (workR x)
    have h2 := @step_len2 g x.cells (workR x)
    simp only [cntWorker, List.length_drop]
    split <;> simp <;> omega
end
def brM (n a b : Int) : Int := if (decide (b < a) || decide (n < a)) = true then a else if b < n then b else n
def allM (g : Graph) : Nat → List Cell → List Record → List Cell × List Record × Nat
  | 0, cs, rs => (cs, rs, 0)
  | m + 1, cs, rs => if rs.length = 0 then (cs, rs, 0) else
    ((allM g m (stepM g cs (List.getD rs 0 default)).1 (rs.drop 1 ++ (stepM g cs (List.getD rs 0 default)).2.1)).1,
     (allM g m (stepM g cs (List.getD rs 0 default)).1 (rs.drop 1 ++ (stepM g cs (List.getD rs 0 default)).2.1)).2.1,
     (allM g m (stepM g cs (List.getD rs 0 default)).1 (rs.drop 1 ++ (stepM g cs (List.getD rs 0 default)).2.1)).2.2 + 1)
def stepAllM (g : Graph) (cs : List Cell) (rs : List Record) (most : Int) : List Cell × List Record × Nat := allM g (Int.toNat (brM most 0 100000)) cs rs
section
variable {g : Graph} {cs cs0 : List Cell} {rs rs0 : List Record} {r : Record} {k m : Nat}
end
def slotM (op e k : Int) (y : Cell) : Bool := slot y ⟨op, e, k, 0⟩
def psiF (b : List Cell) (c : Nat) : Nat := if (leastM b ((c / 400 : Nat) : Int) ((c / 100 % 4 : Nat) : Int) ((c % 100 : Nat) : Int)).2 = true then Int.toNat (leastM b ((c / 400 : Nat) : Int) ((c / 100 % 4 : Nat) : Int) ((c % 100 : Nat) : Int)).1 else 1000
def psiS (f : Nat → Nat) : Nat → Nat
  | 0 => 0
  | n + 1 => psiS f n + f n
def psi (b : List Cell) : Nat := psiS (psiF b) 3200
theorem psiS_eq {f f' : Nat → Nat} : ∀ n, (∀ c, c < n → f' c = f c) → psiS f' n = psiS f n
  | 0, _ => rfl
  | n + 1, h => by rw [psiS, psiS, psiS_eq n (fun c hc => h c (by omega)), h n (by omega)]
theorem psiS_lt {f f' : Nat → Nat} {c0 : Nat} (h0 : f' c0 < f c0) (h : ∀ c, c ≠ c0 → f' c = f c) : ∀ n, c0 < n → psiS f' n < psiS f n
  | 0, hn => by omega
  | n + 1, hn => by
    rw [psiS, psiS]
    by_cases e : c0 = n
    · subst e
      rw [psiS_eq c0 (fun c hc => h c (by omega))]; omega
    · have := psiS_lt h0 h n (by omega)
      rw [h n (by omega)]; omega
section
variable {xs : List Cell} {x : Cell} {op e k n : Int} {s : Bool}
theorem leastGo_filter : ∀ (xs : List Cell) (n : Int) (s : Bool), leastGo op e k xs n s = leastGo op e k (xs.filter (slotM op e k)) n s
  | [], _, _ => rfl
  | x :: xs, n, s => by
    rw [leastGo]
    by_cases h : slotM op e k x = true
    · rw [List.filter_cons_of_pos h, leastGo, ← leastGo_filter xs, ← leastGo_filter xs]
    · rw [List.filter_cons_of_neg h, ← leastGo_filter xs]
      have h' : slot x ⟨op, e, k, 0⟩ = false := Bool.eq_false_iff.2 h
      rw [h']; simp
theorem leastM_filter (xs : List Cell) : leastM xs op e k = leastGo op e k (xs.filter (slotM op e k)) 0 false := leastGo_filter xs 0 false
theorem slot_iff {x y : Cell} : slot x y = true ↔ x.op = y.op ∧ x.epoch = y.epoch ∧ x.key = y.key := by
  simp [slot, and_assoc]
theorem better_own (h : (betterM xs x).2 = true) : leastM (betterM xs x).1 x.op x.epoch x.key = (x.val, true) := by
  have hc : ((leastM xs x.op x.epoch x.key).2 && decide ((leastM xs x.op x.epoch x.key).1 ≤ x.val)) = false := by
    cases hq : ((leastM xs x.op x.epoch x.key).2 && decide ((leastM xs x.op x.epoch x.key).1 ≤ x.val))
    · rfl
    · rw [betterM_yes hq] at h; cases h
  rw [betterM_no hc]
  have hx : slot x x = true := slot_iff.2 ⟨rfl, rfl, rfl⟩
  have hn : x ∉ xs.filter (fun y => !(slot x y)) := fun hm => by
    have := (List.mem_filter.1 hm).2
    rw [hx] at this; cases this
  have hz : (xs.filter (fun y => !(slot x y))).filter (slotM x.op x.epoch x.key) = [] := by
    rw [List.filter_filter, List.filter_eq_nil_iff]
    intro y _ hy
    simp only [Bool.and_eq_true, Bool.not_eq_true'] at hy
    have h1 := slot_iff.1 (show slot y ⟨x.op, x.epoch, x.key, 0⟩ = true from hy.1)
    rw [show slot x y = true from slot_iff.2 ⟨h1.1.symm, h1.2.1.symm, h1.2.2.symm⟩] at hy
    cases hy.2
  have hs : slotM x.op x.epoch x.key x = true := slot_iff.2 ⟨rfl, rfl, rfl⟩
  rw [leastM_filter, putM, if_neg hn]
  generalize hl : xs.filter (fun y => !(slot x y)) = l at hz
  have ha : (l.take (putAt l x)).filter (slotM x.op x.epoch x.key) = [] := by
    rw [List.filter_eq_nil_iff] at hz ⊢; exact fun y hy => hz y (List.mem_of_mem_take hy)
  have hb : (l.drop (putAt l x)).filter (slotM x.op x.epoch x.key) = [] := by
    rw [List.filter_eq_nil_iff] at hz ⊢; exact fun y hy => hz y (List.mem_of_mem_drop hy)
  simp only [insM, List.filter_append, List.filter_cons, ha, hb, hs, if_true, List.nil_append]
  have hs' : slot x ⟨x.op, x.epoch, x.key, 0⟩ = true := hs
  simp [leastGo, hs']
theorem better_other (h : ¬ (op = x.op ∧ e = x.epoch ∧ k = x.key)) : leastM (betterM xs x).1 op e k = leastM xs op e k := by
  unfold betterM
  split
  · rfl
  · have hf : (xs.filter (fun y => !(slot x y))).filter (slotM op e k) = xs.filter (slotM op e k) := by
      rw [List.filter_filter]
      refine List.filter_congr fun y _ => ?_
      cases hy : slotM op e k y with
      | false => simp
      | true =>
        have h1 := slot_iff.1 (show slot y ⟨op, e, k, 0⟩ = true from hy)
        have h2 : slot x y = false := Bool.eq_false_iff.2 fun hq => h (by
          have h3 := slot_iff.1 hq
          exact ⟨(h3.1.trans h1.1).symm, (h3.2.1.trans h1.2.1).symm, (h3.2.2.trans h1.2.2).symm⟩)
        rw [h2]; rfl
    have hs : slotM op e k x = false := Bool.eq_false_iff.2 fun hq => by
      have h1 := slot_iff.1 (show slot x ⟨op, e, k, 0⟩ = true from hq)
      exact h ⟨h1.1.symm, h1.2.1.symm, h1.2.2.symm⟩
    rw [leastM_filter, leastM_filter xs]
    congr 1
    unfold putM
    split
    · exact hf
    · rw [← hf]
      generalize xs.filter (fun y => !(slot x y)) = l
      simp only [insM, List.filter_append, List.filter_cons, hs]
      simp only [Bool.false_eq_true, if_false]
      rw [← List.filter_append, List.take_append_drop]
theorem psi_better (h : (betterM xs x).2 = true) (ho : 0 ≤ x.op ∧ x.op < 8) (he : 0 ≤ x.epoch ∧ x.epoch ≤ 3) (hk : 0 ≤ x.key ∧ x.key ≤ 99) (hv : 0 ≤ x.val ∧ x.val ≤ 999) : psi (betterM xs x).1 < psi xs := by
  have hc : ((leastM xs x.op x.epoch x.key).2 && decide ((leastM xs x.op x.epoch x.key).1 ≤ x.val)) = false := by
    cases hq : ((leastM xs x.op x.epoch x.key).2 && decide ((leastM xs x.op x.epoch x.key).1 ≤ x.val))
    · rfl
    · rw [betterM_yes hq] at h; cases h
  refine psiS_lt (c0 := Int.toNat (x.op * 400 + x.epoch * 100 + x.key)) ?_ (fun c hn => ?_) 3200 (by omega)
  · have e1 : ((Int.toNat (x.op * 400 + x.epoch * 100 + x.key) / 400 : Nat) : Int) = x.op := by omega
    have e2 : ((Int.toNat (x.op * 400 + x.epoch * 100 + x.key) / 100 % 4 : Nat) : Int) = x.epoch := by omega
    have e3 : ((Int.toNat (x.op * 400 + x.epoch * 100 + x.key) % 100 : Nat) : Int) = x.key := by omega
    unfold psiF
    rw [e1, e2, e3, better_own h, if_pos rfl]
    split
    · rename_i hf
      rw [hf, Bool.true_and, decide_eq_false_iff_not] at hc
      simp only []; omega
    · simp only []; omega
  · have hne : ¬ (((c / 400 : Nat) : Int) = x.op ∧ ((c / 100 % 4 : Nat) : Int) = x.epoch ∧ ((c % 100 : Nat) : Int) = x.key) := fun hq => hn (by omega)
    unfold psiF
    rw [better_other hne]
end
theorem fix_step (g : Graph) (b : List Cell) (x : Cell) : (psi (improveM g b x).1 + 1 ≤ psi b ∧ (improveM g b x).1.length ≤ b.length + 1 ∧ (improveM g b x).2.length ≤ 2) ∨ (improveM g b x = (b, [])) := by
  have h1 := @improve_len1 g b x
  have h2 := @improve_len2 g b x
  by_cases hb : impBad g x = true
  · exact .inr (imp_0 hb)
  · have hq := imp_of (Bool.eq_false_iff.2 hb)
    have hop := isNode_of hq.2
    have hl := gok_len hq.1
    have hb' := Bool.eq_false_iff.2 hb
    simp only [impBad, win, Bool.or_eq_false_iff, Bool.not_eq_false', Bool.and_eq_true, decide_eq_true_eq] at hb'
    by_cases hc : (betterM b x).2 = true
    · refine .inl ⟨?_, h1, h2⟩
      have := psi_better hc (by omega) (by omega) (by omega) (by omega)
      rw [improveM, if_neg hb]
      split <;> exact this
    · have hc' := Bool.eq_false_iff.2 hc
      exact .inr (by rw [improveM, if_neg hb, if_pos (by rw [hc']; rfl), better_no hc'])
def fixGo (g : Graph) (b l : List Cell) : List Cell :=
  match l with
  | [] => b
  | x :: l => fixGo g (improveM g b x).1 (l ++ (improveM g b x).2)
termination_by 3 * psi b + l.length
decreasing_by
  rcases fix_step g b x with h | h
  · simp only [List.length_append, List.length_cons]; omega
  · rw [h]; simp only [List.append_nil, List.length_cons]; omega
def fixIn (e : Int) (rs : List Record) : List Cell := (rs.filter (fun r => ofE e r && recordOk r)).map fun r => ⟨0, e, r.key, r.val⟩
def fixM (g : Graph) (e : Int) (rs : List Record) : List Cell := fixGo g [] (fixIn e rs)
def fixT (e : Int) (p : Record → Bool) (rs : List Record) (k : Nat) : List Cell := ((rs.take k).filter p).map fun r => ⟨0, e, r.key, r.val⟩
section
variable {g : Graph} {b l : List Cell} {x : Cell} {e : Int} {rs : List Record} {p : Record → Bool} {k : Nat}
end
def inpTo (x : Cluster) (e : Int) (k : Nat) : List Record := (x.workers.take k).flatMap fun w => w.inputs.filter (ofE e)
def ownerOf (k w : Int) : Int := if w < 1 then 0 else if Int.tmod k w < 0 then Int.tmod k w + w else Int.tmod k w
def linkNew (c : Int) : Link := ⟨brM c 1 4, [], brM c 1 4, 0, 0, 0⟩
def sendM (l : Link) (r : Record) : Link × Bool :=
  if linkOk l = true ∧ recordOk r = true ∧ l.credits ≠ 0 ∧ l.sent ≠ 1000000000 then (⟨l.cap, l.queue ++ [r], IntKind.i64.wrap (l.credits - 1), l.back, IntKind.i64.wrap (l.sent + 1), l.got⟩, true) else (l, false)
def tookM (l : Link) : Link × Record × Bool :=
  if linkOk l = true ∧ 0 < l.queue.length then (⟨l.cap, l.queue.drop 1, l.credits, IntKind.i64.wrap (l.back + 1), l.sent, IntKind.i64.wrap (l.got + 1)⟩, List.getD l.queue 0 default, true) else (l, ⟨0, ⟨0, 0⟩, 0, 0⟩, false)
def creditM (l : Link) : Link × Bool :=
  if linkOk l = true ∧ l.back ≠ 0 then (⟨l.cap, l.queue, IntKind.i64.wrap (l.credits + 1), IntKind.i64.wrap (l.back - 1), l.sent, l.got⟩, true) else (l, false)
section
variable {l : Link} {r : Record}
end
def hasW (x : Cluster) (w : Int) : Bool := clOk x && win w 0 (IntKind.i64.wrap (((x.workers.length : Nat) : Int) - 1))
def linkOfM (x : Cluster) (a b : Int) : Int := if ((!(clOk x)) || (a == b)) = true then -1 else linkM x.graph a b
def wAt (x : Cluster) (w : Int) : Worker := List.getD x.workers (Int.toNat w) default
def lAt (x : Cluster) (k : Int) : Link := List.getD x.links (Int.toNat k) default
def setW (x : Cluster) (w : Int) (y : Worker) : Cluster := { x with workers := x.workers.set (Int.toNat w) y }
def setLk (x : Cluster) (k : Int) (y : Link) : Cluster := { x with links := x.links.set (Int.toNat k) y }
def pickInput (x : Cluster) (w : Int) : Cluster × Bool := if hasW x w = true then (setW x w (takeM x.graph (wAt x w)).1, (takeM x.graph (wAt x w)).2) else (x, false)
def pickWork (x : Cluster) (w : Int) : Cluster × Bool := if hasW x w = true then (setW x w (workM x.graph (wAt x w)).1, (workM x.graph (wAt x w)).2) else (x, false)
def pickCredit (x : Cluster) (a b : Int) : Cluster × Bool := if linkOfM x a b < 0 then (x, false) else (setLk x (linkOfM x a b) (creditM (lAt x (linkOfM x a b))).1, (creditM (lAt x (linkOfM x a b))).2)
def pickTake (x : Cluster) (a b : Int) : Cluster × Bool := if linkOfM x a b < 0 then (x, false) else
  if (tookM (lAt x (linkOfM x a b))).2.2 = true then (setW (setLk x (linkOfM x a b) (tookM (lAt x (linkOfM x a b))).1) b (recvW (wAt x b) (tookM (lAt x (linkOfM x a b))).2.1), true) else (x, false)
def mvR (x : Cluster) (w : Int) : Record := (unstM (wAt x w)).2.1
def mvO (x : Cluster) (w : Int) : Int := ownerOf (mvR x w).key x.graph.workers
def mvS (x : Cluster) (w : Int) : Link × Bool := sendM (lAt x (linkM x.graph w (mvO x w))) (mvR x w)
def pickMove (x : Cluster) (w : Int) : Cluster × Bool := if hasW x w = true ∧ 0 < (wAt x w).staged.length then
  if mvO x w = w then (setW x w (keptW (unstM (wAt x w)).1 (mvR x w)), true) else
  if (mvS x w).2 = true then (setW (setLk x (linkM x.graph w (mvO x w)) (mvS x w).1) w (sentW (unstM (wAt x w)).1 (mvR x w).stamp.epoch), true) else (x, false) else (x, false)
section
variable {x : Cluster} {a b w : Int}
end
def runBad (x : Cluster) (ok : Bool) (a b : Int) : Bool := ((!ok) || (decide (linkM x.graph a b < 0))) || (a == b)
def runCredit (x : Cluster) (ok : Bool) (a b : Int) : Cluster × Bool := if runBad x ok a b = true then (x, false) else (setLk x (linkM x.graph a b) (creditM (lAt x (linkM x.graph a b))).1, (creditM (lAt x (linkM x.graph a b))).2)
section
variable {x : Cluster} {ok : Bool} {a b : Int}
end
def runHas (x : Cluster) (ok : Bool) (w : Int) : Bool := ok && win w 0 (IntKind.i64.wrap (((x.workers.length : Nat) : Int) - 1))
def inBad (y : Worker) : Bool := ((decide (((y.staged.length : Nat) : Int) > 0)) || (decide (((y.queue.length : Nat) : Int) > 0))) || (((y.inputs.length : Nat) : Int) == 0)
def runInput (x : Cluster) (ok : Bool) (w : Int) : Cluster × Bool := if runHas x ok w = true ∧ inBad (wAt x w) = false then
  (setW x w ⟨[List.getD (wAt x w).inputs 0 default], (wAt x w).staged, (wAt x w).inputs.drop 1, (wAt x w).cells, (wAt x w).sums, (wAt x w).black, (wAt x w).caps, (wAt x w).dones⟩, true) else (x, false)
section
variable {x : Cluster} {ok : Bool} {w : Int}
variable (hw : clOk x = true ∧ 0 ≤ w ∧ w < ((x.workers.length : Nat) : Int) ∧ Int.toNat w < x.workers.length)
end
def sumY (y : Worker) (e n : Int) : Worker := ⟨y.queue, y.staged, y.inputs, y.cells, y.sums.set (Int.toNat e) (IntKind.i64.wrap (List.getD y.sums (Int.toNat e) default + n)), y.black, y.caps, y.dones⟩
def sumOk (y : Worker) (e n : Int) : Bool := win (IntKind.i64.wrap (List.getD y.sums (Int.toNat e) default + n)) (-1000000) 1000000
section
variable {x : Cluster} {p e n : Int}
end
def takeY (y : Worker) (r : Record) : Worker := ⟨y.queue ++ [r], y.staged, y.inputs, y.cells, y.sums, y.black.set (Int.toNat r.stamp.epoch) true, y.caps, y.dones⟩
def runTake (x : Cluster) (ok : Bool) (a b : Int) : Cluster × Bool × Bool := if runBad x ok a b = true then (x, false, ok) else
  if (tookM (lAt x (linkM x.graph a b))).2.2 = false then (x, false, ok) else
  (setW (setLk x (linkM x.graph a b) (tookM (lAt x (linkM x.graph a b))).1) b (sumY (takeY (wAt x b) (tookM (lAt x (linkM x.graph a b))).2.1) (tookM (lAt x (linkM x.graph a b))).2.1.stamp.epoch (-1)), true,
    ok && sumOk (takeY (wAt x b) (tookM (lAt x (linkM x.graph a b))).2.1) (tookM (lAt x (linkM x.graph a b))).2.1.stamp.epoch (-1))
section
variable {x : Cluster} {ok : Bool} {a b : Int}
end
def wkBad (y : Worker) : Bool := (decide (((y.staged.length : Nat) : Int) > 0)) || (((y.queue.length : Nat) : Int) == 0)
def wkY (g : Graph) (y : Worker) : Worker := ⟨y.queue.drop 1, (stepM g y.cells (workR y)).2.1, y.inputs, (stepM g y.cells (workR y)).1, y.sums, y.black, if cappedM g (workR y) = true then y.caps.set (Int.toNat (workR y).stamp.epoch) true else y.caps, y.dones⟩
def runWork (x : Cluster) (ok : Bool) (w : Int) : Cluster × Bool := if runHas x ok w = true ∧ wkBad (wAt x w) = false then (setW x w (wkY x.graph (wAt x w)), true) else (x, false)
section
variable {x : Cluster} {ok : Bool} {w : Int}
variable (hw : clOk x = true ∧ 0 ≤ w ∧ w < ((x.workers.length : Nat) : Int) ∧ Int.toNat w < x.workers.length)
end
section
variable {x : Cluster} {a b : Int}
end
section
variable {x : Cluster} {p k : Int}
end
section
variable {x : Cluster} {p : Int} (hw : clOk x = true ∧ 0 ≤ p ∧ p < ((x.workers.length : Nat) : Int) ∧ Int.toNat p < x.workers.length) (h1 : hasW x p = true ∧ 0 < (wAt x p).staged.length)
include h1
variable (hl : Int.toNat (linkM x.graph p (ownerOf ((unstM (x.workers[Int.toNat p]'hw.2.2.2)).2.1).key x.graph.workers)) < x.links.length)
end
def smR (x : Cluster) (p : Int) : Record := List.getD (wAt x p).staged 0 default
def smK (x : Cluster) (p : Int) : Int := linkM x.graph p (ownerOf (smR x p).key x.graph.workers)
def dropS (y : Worker) : Worker := ⟨y.queue, y.staged.drop 1, y.inputs, y.cells, y.sums, y.black, y.caps, y.dones⟩
def runMove (x : Cluster) (ok : Bool) (p : Int) : Cluster × Bool × Bool := if runHas x ok p = true ∧ 0 < (wAt x p).staged.length then
  if ownerOf (smR x p).key x.graph.workers = p then (setW x p (dropS (keptW (wAt x p) (smR x p))), true, ok) else
  if (sendM (lAt x (smK x p)) (smR x p)).2 = true then (setW (setLk x (smK x p) (sendM (lAt x (smK x p)) (smR x p)).1) p (dropS (sumY (wAt x p) (smR x p).stamp.epoch 1)), true, ok && sumOk (wAt x p) (smR x p).stamp.epoch 1) else (x, false, ok)
  else (x, false, ok)
section
variable {x : Cluster} {ok : Bool} {p : Int}
variable (hw : clOk x = true ∧ 0 ≤ p ∧ p < ((x.workers.length : Nat) : Int) ∧ Int.toNat p < x.workers.length) (h0 : 0 < (x.workers[Int.toNat p]'hw.2.2.2).staged.length)
variable (h1 : ((!(ok && win p 0 (IntKind.i64.wrap (((x.workers.length : Nat) : Int) - 1)))) || (((((List.getD x.workers (Int.toNat p) default).staged).length : Nat) : Int) == 0)) = false)
include h1
variable (hl : Int.toNat (linkM x.graph p (ownerOf ((x.workers[Int.toNat p]'hw.2.2.2).staged[0]'h0).key x.graph.workers)) < x.links.length)
end
section
variable {x : Cluster} {p : Int}
end
def mineP (n w : Int) (r : Record) : Bool := ownerOf r.key n == w
def bothP (e n w : Int) (r : Record) : Bool := ofE e r && mineP n w r
def ownTo (n w : Int) (xs : List Record) : Nat → List Record
  | 0 => []
  | e + 1 => ownTo n w xs e ++ (xs.filter (ofE ((e : Nat) : Int))).filter (mineP n w)
def recBad (r : Record) : Bool := (!(recordOk r) || r.op != 0) || r.stamp.turn != 0
def newWs (g : Graph) (xs : List Record) (k : Nat) : List Worker := (List.range k).map fun i => workerNew (ownTo g.workers ((i : Nat) : Int) xs 4)
def clZero : Cluster := ⟨⟨[], 0, 0⟩, [], [], [], []⟩
def newCl (g : Graph) (xs : List Record) : Cluster := ⟨g, newWs g xs (Int.toNat g.workers), List.replicate (Int.toNat g.workers * Int.toNat g.workers) (linkNew g.cap), [⟨false, 0, 0, false, false⟩, ⟨false, 0, 0, false, false⟩, ⟨false, 0, 0, false, false⟩, ⟨false, 0, 0, false, false⟩], []⟩
def clusterNew (g : Graph) (xs : List Record) : Cluster × Bool := if ((!(graphOk g)) || decide (20 < ((xs.length : Nat) : Int))) = true then (clZero, false) else if xs.any recBad = true then (clZero, false) else (newCl g xs, true)
theorem better_again (xs : List Cell) (x : Cell) : betterM (betterM xs x).1 x = ((betterM xs x).1, false) ∧ (leastM (betterM xs x).1 x.op x.epoch x.key).2 = true ∧ (leastM (betterM xs x).1 x.op x.epoch x.key).1 ≤ x.val := by
  cases hq : ((leastM xs x.op x.epoch x.key).2 && decide ((leastM xs x.op x.epoch x.key).1 ≤ x.val))
  · have h := better_own (xs := xs) (x := x) (by rw [betterM_no hq])
    refine ⟨betterM_yes (by rw [h]; simp), by rw [h], by rw [h]; exact Int.le_refl _⟩
  · rw [betterM_yes hq]
    simp only [Bool.and_eq_true, decide_eq_true_eq] at hq
    exact ⟨betterM_yes (by simpa using hq), hq.1, hq.2⟩
def smG (g : Graph) : Prop := g.nodes.length ≤ 9 ∧ ∀ y ∈ g.nodes, y.outs.length ≤ 3
theorem cnt_small : ∀ {xs : List Node}, (∀ y ∈ xs, y.outs.length ≤ 3) → cntL cntNode xs ≤ 4 * xs.length
  | [], _ => by simp [cntL]
  | y :: xs, hx => by
    have h1 := cnt_small fun z hz => hx z (List.mem_cons_of_mem y hz)
    have h2 := hx y (by simp)
    simp only [cntL, List.length_cons, List.map_cons, List.sum_cons, cntNode] at *
    omega
theorem smG_cnt {g : Graph} (h : smG g) : cntGraph g ≤ 1048576 := by
  have h1 := cnt_small h.2
  have h2 := h.1
  unfold cntGraph
  omega
def outsI (g : Graph) (a : Int) : List Int := (List.getD g.nodes (Int.toNat a) default).outs
inductive Pth (g : Graph) : Int → Int → Prop
  | one {a b : Int} : b ∈ outsI g a → Pth g a b
  | step {a b c : Int} : Pth g a b → c ∈ outsI g b → Pth g a c
def nodeI (g : Graph) (a : Int) : Prop := 0 ≤ a ∧ a < ((g.nodes.length : Nat) : Int)
section
variable {g : Graph} {a b c x : Int} {f os : List Int} {n i k : Nat}
def backAt (g : Graph) (i : Nat) : Bool := ((List.getD g.nodes i default).kind == 7) && decide (0 < (((List.getD g.nodes i default).outs.length : Nat) : Int))
def gateAt (g : Graph) (k m : Nat) : Bool := (((List.getD g.nodes m default).kind == 5) || ((List.getD g.nodes m default).kind == 6)) && ((((m : Nat) : Int) == ((k : Nat) : Int)) || (reaches g ((k : Nat) : Int) ((m : Nat) : Int) && reaches g ((m : Nat) : Int) ((k : Nat) : Int)))
def loopG : Graph := ⟨[⟨1, 0, 0, [1]⟩, ⟨5, 0, 0, [2]⟩, ⟨7, 0, 0, [1]⟩], 1, 1⟩
end
section
variable {g : Graph} {cs : List Cell} {r q : Record} {x : Node} {a b : Int}
theorem changed_rg (hn : nodeOk x = true) (ha : win a 0 99 = true) (hb : win b 0 999 = true) : win (changedM x a b).1 0 99 = true ∧ win (changedM x a b).2.1 0 999 = true := by
  have h : (!(nodeOk x) || !(win a 0 99 && win b 0 999)) = false := by rw [hn, ha, hb]; rfl
  have ha' := win_iff.1 ha
  have hb' := win_iff.1 hb
  have hk : kindOk x = true := by simp only [nodeOk, Bool.and_eq_true] at hn; exact hn.1.1
  cases h2 : (x.kind == 2) with
  | true =>
    rw [ch_2 h h2]
    rw [node_2 h2, Bool.and_eq_true] at hk
    have := win_iff.1 hk.1
    refine ⟨ha, win_iff.2 ?_⟩
    dsimp only
    rw [wrap_in (by omega) (by omega)]
    split <;> omega
  | false =>
    cases h4 : (x.kind == 4) with
    | true =>
      rw [ch_4 h h4]
      rw [node_4 h4, Bool.and_eq_true] at hk
      have := win_iff.1 hk.1
      refine ⟨win_iff.2 ?_, hb⟩
      dsimp only
      rw [wrap_in (by omega) (by omega), Int.tmod_eq_emod_of_nonneg (by omega)]
      omega
    | false =>
      cases h3 : (x.kind == 3) with
      | true => rw [ch_3 h h3]; exact ⟨ha, hb⟩
      | false => rw [ch_o h h2 h4 h3]; exact ⟨ha, hb⟩
end
def twoG : Graph := ⟨[⟨1, 0, 0, [1]⟩, ⟨8, 0, 0, []⟩], 1, 1⟩
section
variable {g : Graph} {a b l xs : List Cell} {x y c m : Cell} {e : Int} {rs : List Record}
theorem nw_iff : nwP a x = true ↔ (leastM a x.op x.epoch x.key).2 = true ∧ (leastM a x.op x.epoch x.key).1 ≤ x.val := by
  simp only [nwP, Bool.not_eq_true', Bool.or_eq_false_iff, Bool.not_eq_false', decide_eq_false_iff_not, Int.not_lt]
theorem better_self (xs : List Cell) (x : Cell) : nwP (betterM xs x).1 x = true := nw_iff.2 (better_again xs x).2
theorem better_nw (h : nwP xs y = true) : nwP (betterM xs x).1 y = true := by
  have hy := nw_iff.1 h
  by_cases hs : y.op = x.op ∧ y.epoch = x.epoch ∧ y.key = x.key
  · cases hc : (betterM xs x).2 with
    | false => rw [better_no hc]; exact h
    | true =>
      have ho := better_own hc
      have hf : ((leastM xs x.op x.epoch x.key).2 && decide ((leastM xs x.op x.epoch x.key).1 ≤ x.val)) = false := by
        cases hq : ((leastM xs x.op x.epoch x.key).2 && decide ((leastM xs x.op x.epoch x.key).1 ≤ x.val))
        · rfl
        · rw [betterM_yes hq] at hc; cases hc
      rw [hs.1, hs.2.1, hs.2.2] at hy
      rw [hy.1, Bool.true_and, decide_eq_false_iff_not] at hf
      refine nw_iff.2 ?_
      rw [hs.1, hs.2.1, hs.2.2, ho]
      refine ⟨rfl, ?_⟩
      have := hy.2
      dsimp only; omega
  · refine nw_iff.2 ?_
    rw [better_other hs]; exact hy
theorem improve_1 : (improveM g b x).1 = if impBad g x = true then b else (betterM b x).1 := by
  unfold improveM
  split
  · rfl
  · split <;> rfl
theorem improve_nw (h : nwP b y = true) : nwP (improveM g b x).1 y = true := by
  rw [improve_1]; split
  · exact h
  · exact better_nw h
theorem improve_self (h : impBad g x = false) : nwP (improveM g b x).1 x = true := by
  rw [improve_1, if_neg (nof h)]; exact better_self b x
theorem putM_sub (h : c ∈ putM l x) : c ∈ l ∨ c = x := by
  unfold putM at h
  split at h
  · exact .inl h
  · unfold insM at h
    simp only [List.mem_append, List.mem_cons] at h
    rcases h with h | h | h
    · exact .inl (List.mem_of_mem_take h)
    · exact .inr h
    · exact .inl (List.mem_of_mem_drop h)
theorem better_sub (h : c ∈ (betterM b x).1) : c ∈ b ∨ (c = x ∧ (betterM b x).2 = true) := by
  unfold betterM at h ⊢
  split at h
  · exact .inl h
  · rename_i hn
    rcases putM_sub h with h | h
    · exact .inl (List.mem_filter.1 h).1
    · rw [if_neg hn]; exact .inr ⟨h, rfl⟩
theorem improve_more (hb : impBad g x = false) (h : (betterM b x).2 = true) : (improveM g b x).2 = (improveM g [] x).2 := by
  have h0 : (betterM [] x).2 = true := by rw [betterM_no (by simp [leastM, leastGo])]
  unfold improveM
  rw [if_neg (nof hb), if_neg (nof hb), h, h0]
  split <;> rfl
theorem more_ok (hb : impBad g x = false) (hm : m ∈ (improveM g [] x).2) : impBad g m = false := by
  have hq := imp_of hb
  have hi := isNode_of hq.2
  unfold improveM at hm
  rw [if_neg (nof hb)] at hm
  split at hm
  · cases hm
  · have hno : nodeOk g.nodes[Int.toNat x.op] = true := by
      have := gok_at hq.1 hi.2.2
      simp only [nodeAtOk, atOk, Bool.and_eq_true, Bool.not_eq_true', Bool.or_eq_false_iff, Bool.not_eq_false'] at this
      exact this.1.1
    have hb' := hb
    simp only [impBad, Bool.or_eq_false_iff, Bool.not_eq_false', Bool.and_eq_true] at hb'
    have hrg := changed_rg hno hb'.2.1 hb'.2.2
    simp only [impTo, List.mem_map, List.take_length] at hm
    obtain ⟨n, hn, rfl⟩ := hm
    rw [getD_at hi.2.2] at hn
    have ho := gok_outs hq.1 hi.2.2 n hn
    have hnn : isNodeM g n = true := win_iff.2 (by omega)
    simp only [impBad, Bool.or_eq_false_iff, Bool.not_eq_false', Bool.and_eq_true]
    refine ⟨⟨⟨hq.1, hnn⟩, hb'.1.2⟩, ?_⟩
    rw [impCh, getD_at hi.2.2]; exact hrg
def FInv (g : Graph) (b l : List Cell) : Prop := (∀ c ∈ b, impBad g c = false ∧ ∀ m ∈ (improveM g [] c).2, nwP b m = true ∨ m ∈ l) ∧ ∀ x ∈ l, impBad g x = false
theorem FInv.step (h : FInv g b (x :: l)) : FInv g (improveM g b x).1 (l ++ (improveM g b x).2) := by
  have hx := h.2 x (by simp)
  have hle : ∀ m ∈ (improveM g b x).2, m ∈ (improveM g [] x).2 := fun m hm => by
    cases hc : (betterM b x).2 with
    | true => rw [← improve_more hx hc]; exact hm
    | false =>
      unfold improveM at hm
      rw [if_neg (nof hx), hc] at hm
      simp at hm
  refine ⟨fun c hc => ?_, fun y hy => ?_⟩
  · have old : c ∈ b → impBad g c = false ∧ ∀ m ∈ (improveM g [] c).2, nwP (improveM g b x).1 m = true ∨ m ∈ l ++ (improveM g b x).2 := fun hcb => by
      refine ⟨(h.1 c hcb).1, fun m hm => ?_⟩
      rcases (h.1 c hcb).2 m hm with h1 | h1
      · exact .inl (improve_nw h1)
      · rcases List.mem_cons.1 h1 with rfl | h1
        · exact .inl (improve_self hx)
        · exact .inr (List.mem_append.2 (.inl h1))
    rw [improve_1, if_neg (nof hx)] at hc
    rcases better_sub hc with hc | ⟨rfl, hc⟩
    · exact old hc
    · exact ⟨hx, fun m hm => .inr (List.mem_append.2 (.inr (by rw [improve_more hx hc]; exact hm)))⟩
  · rcases List.mem_append.1 hy with hy | hy
    · exact h.2 y (by simp [hy])
    · exact more_ok hx (hle y hy)
def fixQ (e : Int) (r : Record) : Bool := ((r.stamp.epoch == e) && recordOk r) && decide (0 ≤ e)
end
section
variable {g : Graph} {x : Worker} {r : Record} {k : Nat}
theorem wl_take (h : cntWorker x ≤ 60 + 4 * k) : cntWorker (takeM g x).1 ≤ 60 + 4 * (k + 1) := by have := @cnt_take g x; omega
theorem wl_recv (h : cntWorker x ≤ 60 + 4 * k) : cntWorker (recvW x r) ≤ 60 + 4 * (k + 1) := by have := cnt_recv x r; omega
theorem wl_unst (h : cntWorker x ≤ 60 + 4 * k) : cntWorker (unstM x).1 ≤ 60 + 4 * (k + 1) := by have := cnt_unst x; omega
theorem wl_work (h : cntWorker x ≤ 60 + 4 * k) : cntWorker (workM g x).1 ≤ 60 + 4 * (k + 1) := by have := @cnt_work g x; omega
theorem ws_take (h : x.sums.length = 4) : (takeM g x).1.sums.length = 4 := by unfold takeM; split <;> exact h
theorem ws_recv (h : x.sums.length = 4) : (recvW x r).sums.length = 4 := by unfold recvW keptW; split <;> simpa using h
theorem ws_unst (h : x.sums.length = 4) : (unstM x).1.sums.length = 4 := by unfold unstM; split <;> exact h
theorem ws_work (h : x.sums.length = 4) : (workM g x).1.sums.length = 4 := by unfold workM; split <;> exact h
end
def oneG : Graph := ⟨[⟨1, 0, 0, []⟩], 1, 1⟩
theorem oneG_ok : graphOk oneG = true := by decide +kernel
theorem one_ok {K : Int} (h : 0 ≤ K ∧ K ≤ 99) : workerOk oneG (workerNew [⟨0, ⟨0, 0⟩, K, 0⟩]) = true := by
  have hk : win K 0 99 = true := win_iff.2 h
  have h1 : opOk oneG ⟨0, ⟨0, 0⟩, K, 0⟩ = true := by
    simp only [opOk, recordOk, hk]; decide +kernel
  have h2 : inAt [(⟨0, ⟨0, 0⟩, K, 0⟩ : Record)] 0 = true := by
    rw [inAt_at (by simp)]; rfl
  have h3 : allR [(⟨0, ⟨0, 0⟩, K, 0⟩ : Record)].length (fun j => inAt [⟨0, ⟨0, 0⟩, K, 0⟩] j) = true := allR_s (n := 0) rfl h2
  have h4 : [(⟨0, ⟨0, 0⟩, K, 0⟩ : Record)].all (opOk oneG) = true := by rw [List.all_cons, h1]; rfl
  simp only [workerOk, workerNew, h4, h3]
  decide +kernel
theorem take_one {K : Int} (h : 0 ≤ K ∧ K ≤ 99) : takeM oneG (workerNew [⟨0, ⟨0, 0⟩, K, 0⟩]) = (⟨[⟨0, ⟨0, 0⟩, K, 0⟩], [], [], [], [0, 0, 0, 0], [false, false, false, false], [false, false, false, false], []⟩, true) := by
  have hb : takeBad oneG (workerNew [⟨0, ⟨0, 0⟩, K, 0⟩]) = false := by
    simp only [takeBad, oneG_ok, one_ok h]; rfl
  rw [takeM, if_neg (nof hb)]; rfl
theorem take_two {y : Worker} {r : Record} {g : Graph} : (takeM g (keptW y r)).2 = false := by
  have hb : takeBad g (keptW y r) = true := by
    have : (keptW y r).queue.length = y.queue.length + 1 := by simp [keptW]
    simp only [takeBad, this, Bool.or_eq_true, decide_eq_true_eq]
    exact .inl (.inr (by omega))
  rw [takeM, if_pos hb]
theorem take_facts1 {g : Graph} {x : Worker} : ((takeM g x).2 = true → x.queue.length = 0 ∧ x.staged.length = 0) ∧ ((takeM g x).2 = false → (takeM g x).1 = x) := by
  unfold takeM
  split
  · exact ⟨(fun h => by cases h), fun _ => rfl⟩
  · rename_i hb
    simp only [takeBad, Bool.or_eq_true, not_or, decide_eq_true_eq] at hb
    exact ⟨fun _ => by omega, fun h => by cases h⟩
theorem back_fin (g : Graph) (x : Worker) {K L : Int} (h : 0 ≤ K ∧ K ≤ 99) (hL : Int.tmod L 100 = K) : (((((((!((takeM g x).2)) || ((((x.queue.length : Nat) : Int) == 0) && (((x.staged.length : Nat) : Int) == 0))) && (((takeM g x).2) || (decide (((takeM g x).1) = x)))) && ((takeM (⟨[(⟨1, 0, 0, []⟩ : Node)], 1, 1⟩ : Graph) (workerNew [(⟨0, (⟨0, 0⟩ : Stamp), K, 0⟩ : Record)])).2)) && ((((((takeM (⟨[(⟨1, 0, 0, []⟩ : Node)], 1, 1⟩ : Graph) (workerNew [(⟨0, (⟨0, 0⟩ : Stamp), K, 0⟩ : Record)])).1).queue).length : Nat) : Int) == 1)) && (((List.getD (((takeM (⟨[(⟨1, 0, 0, []⟩ : Node)], 1, 1⟩ : Graph) (workerNew [(⟨0, (⟨0, 0⟩ : Stamp), K, 0⟩ : Record)])).1).queue) 0 default).key) == (Int.tmod L 100))) && (!((takeM (⟨[(⟨1, 0, 0, []⟩ : Node)], 1, 1⟩ : Graph) (keptW (workerNew [(⟨0, (⟨0, 0⟩ : Stamp), K, 0⟩ : Record)]) (⟨0, (⟨0, 0⟩ : Stamp), 0, 0⟩ : Record))).2))) = true := by
  rw [take_two, hL, show takeM (⟨[(⟨1, 0, 0, []⟩ : Node)], 1, 1⟩ : Graph) (workerNew [(⟨0, (⟨0, 0⟩ : Stamp), K, 0⟩ : Record)]) = _ from take_one h]
  have hf := @take_facts1 g x
  cases ht : (takeM g x).2 with
  | true => have h1 := hf.1 ht; simp [h1.1, h1.2]
  | false => rw [hf.2 ht]; simp
end Go.Proofs.Yteljajfcppmeiaa
