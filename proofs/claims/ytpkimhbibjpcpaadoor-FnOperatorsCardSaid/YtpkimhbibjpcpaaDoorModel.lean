/- The plain functions on lists and numbers that the contracts name, and what holds of them; no condition. -/
import Derived.Test.YtpkimhbibjpcpaaDoorLib2
namespace Go.Proofs.YtpkimhbibjpcpaaDoor
open Go Go.Proofs.YtpkimhbibjpcpaaDoor.X
/-- So many elements, and what lies behind each. -/
def cntL {α : Type} (f : α → Nat) (xs : List α) : Nat := xs.length + (xs.map f).sum
structure Stamp where
  epoch : Int
  turn : Int
  deriving DecidableEq, Inhabited
instance : Enc Stamp := ⟨fun x => [.int .i64 x.epoch, .int .i64 x.turn], 2, fun _ => rfl, fun _ => rfl, by decide⟩
structure Record where
  op : Int
  stamp : Stamp
  key : Int
  val : Int
  deriving DecidableEq, Inhabited
instance : Enc Record := ⟨fun x => [.int .i64 x.op, .int .i64 x.stamp.epoch, .int .i64 x.stamp.turn, .int .i64 x.key, .int .i64 x.val], 5, fun _ => rfl, fun _ => rfl, by decide⟩
structure Cell where
  op : Int
  epoch : Int
  key : Int
  val : Int
  deriving DecidableEq, Inhabited
instance : Enc Cell := ⟨fun x => [.int .i64 x.op, .int .i64 x.epoch, .int .i64 x.key, .int .i64 x.val], 4, fun _ => rfl, fun _ => rfl, by decide⟩
structure Done where
  epoch : Int
  capped : Bool
  deriving DecidableEq, Inhabited
instance : Enc Done := ⟨fun x => [.int .i64 x.epoch, .bool x.capped], 2, fun _ => rfl, fun _ => rfl, by decide⟩
structure Token where
  going : Bool
  place : Int
  sum : Int
  black : Bool
  capped : Bool
  deriving DecidableEq, Inhabited
instance : Enc Token := ⟨fun x => [.bool x.going, .int .i64 x.place, .int .i64 x.sum, .bool x.black, .bool x.capped], 5, fun _ => rfl, fun _ => rfl, by decide⟩
structure News where
  dest : Int
  epoch : Int
  capped : Bool
  deriving DecidableEq, Inhabited
instance : Enc News := ⟨fun x => [.int .i64 x.dest, .int .i64 x.epoch, .bool x.capped], 3, fun _ => rfl, fun _ => rfl, by decide⟩
structure Count where
  stamp : Stamp
  n : Int
  deriving DecidableEq, Inhabited
instance : Enc Count := ⟨fun x => [.int .i64 x.stamp.epoch, .int .i64 x.stamp.turn, .int .i64 x.n], 3, fun _ => rfl, fun _ => rfl, by decide⟩
structure Node where
  kind : Int
  a : Int
  b : Int
  outs : List Int
  deriving DecidableEq, Inhabited
instance : Dat Node := ⟨4, fun w lo hi cs x => ∃ o1, cs = [.int .i64 x.kind, .int .i64 x.a, .int .i64 x.b, o1] ∧ RdD w lo hi o1 x.outs, by decide, fun h => by obtain ⟨o1, rfl, h1⟩ := h; exact rfl, fun h => by obtain ⟨o1, rfl, h1⟩ := h; exact all_cons rfl (all_cons rfl (all_cons rfl (all_cons (RdD.one h1) (rfl)))), fun h s => by obtain ⟨o1, rfl, h1⟩ := h; exact ⟨o1, rfl, RdD.same h1 s⟩, fun h a b => by obtain ⟨o1, rfl, h1⟩ := h; exact ⟨o1, rfl, RdD.widen h1 a b⟩, fun h => by obtain ⟨o1, rfl, h1⟩ := h; exact ⟨o1, rfl, RdD.any h1⟩⟩
theorem Node.op {w : World} {lo hi : Nat} {cs : List Value} {x : Node} (h : Dat.R w lo hi cs x) : ∃ o1, cs = [.int .i64 x.kind, .int .i64 x.a, .int .i64 x.b, o1] ∧ RdD w lo hi o1 x.outs := h
theorem Node.mkR {w : World} {lo hi : Nat} {o1 : Value} (x : Node) (h1 : RdD w lo hi o1 x.outs) : Dat.R w lo hi [.int .i64 x.kind, .int .i64 x.a, .int .i64 x.b, o1] x := ⟨o1, rfl, h1⟩
def cntNode (x : Node) : Nat := x.outs.length
structure Graph where
  nodes : List Node
  workers : Int
  cap : Int
  deriving DecidableEq, Inhabited
instance : Dat Graph := ⟨3, fun w lo hi cs x => ∃ o1, cs = [o1, .int .i64 x.workers, .int .i64 x.cap] ∧ RdD w lo hi o1 x.nodes, by decide, fun h => by obtain ⟨o1, rfl, h1⟩ := h; exact rfl, fun h => by obtain ⟨o1, rfl, h1⟩ := h; exact all_cons (RdD.one h1) (all_cons rfl (all_cons rfl (rfl))), fun h s => by obtain ⟨o1, rfl, h1⟩ := h; exact ⟨o1, rfl, RdD.same h1 s⟩, fun h a b => by obtain ⟨o1, rfl, h1⟩ := h; exact ⟨o1, rfl, RdD.widen h1 a b⟩, fun h => by obtain ⟨o1, rfl, h1⟩ := h; exact ⟨o1, rfl, RdD.any h1⟩⟩
theorem Graph.op {w : World} {lo hi : Nat} {cs : List Value} {x : Graph} (h : Dat.R w lo hi cs x) : ∃ o1, cs = [o1, .int .i64 x.workers, .int .i64 x.cap] ∧ RdD w lo hi o1 x.nodes := h
theorem Graph.mkR {w : World} {lo hi : Nat} {o1 : Value} (x : Graph) (h1 : RdD w lo hi o1 x.nodes) : Dat.R w lo hi [o1, .int .i64 x.workers, .int .i64 x.cap] x := ⟨o1, rfl, h1⟩
def cntGraph (x : Graph) : Nat := cntL cntNode x.nodes
structure Worker where
  queue : List Record
  staged : List Record
  inputs : List Record
  cells : List Cell
  sums : List Int
  black : List Bool
  caps : List Bool
  dones : List Done
  deriving DecidableEq, Inhabited
instance : Dat Worker := ⟨8, fun w lo hi cs x => ∃ o1 o2 o3 o4 o5 o6 o7 o8, cs = [o1, o2, o3, o4, o5, o6, o7, o8] ∧ RdD w lo hi o1 x.queue ∧ RdD w lo hi o2 x.staged ∧ RdD w lo hi o3 x.inputs ∧ RdD w lo hi o4 x.cells ∧ RdD w lo hi o5 x.sums ∧ RdD w lo hi o6 x.black ∧ RdD w lo hi o7 x.caps ∧ RdD w lo hi o8 x.dones, by decide, fun h => by obtain ⟨o1, o2, o3, o4, o5, o6, o7, o8, rfl, h1, h2, h3, h4, h5, h6, h7, h8⟩ := h; exact rfl, fun h => by obtain ⟨o1, o2, o3, o4, o5, o6, o7, o8, rfl, h1, h2, h3, h4, h5, h6, h7, h8⟩ := h; exact all_cons (RdD.one h1) (all_cons (RdD.one h2) (all_cons (RdD.one h3) (all_cons (RdD.one h4) (all_cons (RdD.one h5) (all_cons (RdD.one h6) (all_cons (RdD.one h7) (all_cons (RdD.one h8) (rfl)))))))), fun h s => by obtain ⟨o1, o2, o3, o4, o5, o6, o7, o8, rfl, h1, h2, h3, h4, h5, h6, h7, h8⟩ := h; exact ⟨o1, o2, o3, o4, o5, o6, o7, o8, rfl, RdD.same h1 s, RdD.same h2 s, RdD.same h3 s, RdD.same h4 s, RdD.same h5 s, RdD.same h6 s, RdD.same h7 s, RdD.same h8 s⟩, fun h a b => by obtain ⟨o1, o2, o3, o4, o5, o6, o7, o8, rfl, h1, h2, h3, h4, h5, h6, h7, h8⟩ := h; exact ⟨o1, o2, o3, o4, o5, o6, o7, o8, rfl, RdD.widen h1 a b, RdD.widen h2 a b, RdD.widen h3 a b, RdD.widen h4 a b, RdD.widen h5 a b, RdD.widen h6 a b, RdD.widen h7 a b, RdD.widen h8 a b⟩, fun h => by obtain ⟨o1, o2, o3, o4, o5, o6, o7, o8, rfl, h1, h2, h3, h4, h5, h6, h7, h8⟩ := h; exact ⟨o1, o2, o3, o4, o5, o6, o7, o8, rfl, RdD.any h1, RdD.any h2, RdD.any h3, RdD.any h4, RdD.any h5, RdD.any h6, RdD.any h7, RdD.any h8⟩⟩
theorem Worker.op {w : World} {lo hi : Nat} {cs : List Value} {x : Worker} (h : Dat.R w lo hi cs x) : ∃ o1 o2 o3 o4 o5 o6 o7 o8, cs = [o1, o2, o3, o4, o5, o6, o7, o8] ∧ RdD w lo hi o1 x.queue ∧ RdD w lo hi o2 x.staged ∧ RdD w lo hi o3 x.inputs ∧ RdD w lo hi o4 x.cells ∧ RdD w lo hi o5 x.sums ∧ RdD w lo hi o6 x.black ∧ RdD w lo hi o7 x.caps ∧ RdD w lo hi o8 x.dones := h
theorem Worker.mkR {w : World} {lo hi : Nat} {o1 o2 o3 o4 o5 o6 o7 o8 : Value} (x : Worker) (h1 : RdD w lo hi o1 x.queue) (h2 : RdD w lo hi o2 x.staged) (h3 : RdD w lo hi o3 x.inputs) (h4 : RdD w lo hi o4 x.cells) (h5 : RdD w lo hi o5 x.sums) (h6 : RdD w lo hi o6 x.black) (h7 : RdD w lo hi o7 x.caps) (h8 : RdD w lo hi o8 x.dones) : Dat.R w lo hi [o1, o2, o3, o4, o5, o6, o7, o8] x := ⟨o1, o2, o3, o4, o5, o6, o7, o8, rfl, h1, h2, h3, h4, h5, h6, h7, h8⟩
def cntWorker (x : Worker) : Nat := x.queue.length + x.staged.length + x.inputs.length + x.cells.length + x.sums.length + x.black.length + x.caps.length + x.dones.length
structure Link where
  cap : Int
  queue : List Record
  credits : Int
  back : Int
  sent : Int
  got : Int
  deriving DecidableEq, Inhabited
instance : Dat Link := ⟨6, fun w lo hi cs x => ∃ o1, cs = [.int .i64 x.cap, o1, .int .i64 x.credits, .int .i64 x.back, .int .i64 x.sent, .int .i64 x.got] ∧ RdD w lo hi o1 x.queue, by decide, fun h => by obtain ⟨o1, rfl, h1⟩ := h; exact rfl, fun h => by obtain ⟨o1, rfl, h1⟩ := h; exact all_cons rfl (all_cons (RdD.one h1) (all_cons rfl (all_cons rfl (all_cons rfl (all_cons rfl (rfl)))))), fun h s => by obtain ⟨o1, rfl, h1⟩ := h; exact ⟨o1, rfl, RdD.same h1 s⟩, fun h a b => by obtain ⟨o1, rfl, h1⟩ := h; exact ⟨o1, rfl, RdD.widen h1 a b⟩, fun h => by obtain ⟨o1, rfl, h1⟩ := h; exact ⟨o1, rfl, RdD.any h1⟩⟩
theorem Link.op {w : World} {lo hi : Nat} {cs : List Value} {x : Link} (h : Dat.R w lo hi cs x) : ∃ o1, cs = [.int .i64 x.cap, o1, .int .i64 x.credits, .int .i64 x.back, .int .i64 x.sent, .int .i64 x.got] ∧ RdD w lo hi o1 x.queue := h
theorem Link.mkR {w : World} {lo hi : Nat} {o1 : Value} (x : Link) (h1 : RdD w lo hi o1 x.queue) : Dat.R w lo hi [.int .i64 x.cap, o1, .int .i64 x.credits, .int .i64 x.back, .int .i64 x.sent, .int .i64 x.got] x := ⟨o1, rfl, h1⟩
def cntLink (x : Link) : Nat := x.queue.length
structure Cluster where
  graph : Graph
  workers : List Worker
  links : List Link
  tokens : List Token
  news : List News
  deriving DecidableEq, Inhabited
instance : Dat Cluster := ⟨7, fun w lo hi cs x => ∃ o1 o2 o3 o4 o5, cs = [o1, .int .i64 x.graph.workers, .int .i64 x.graph.cap, o2, o3, o4, o5] ∧ RdD w lo hi o1 x.graph.nodes ∧ RdD w lo hi o2 x.workers ∧ RdD w lo hi o3 x.links ∧ RdD w lo hi o4 x.tokens ∧ RdD w lo hi o5 x.news, by decide, fun h => by obtain ⟨o1, o2, o3, o4, o5, rfl, h1, h2, h3, h4, h5⟩ := h; exact rfl, fun h => by obtain ⟨o1, o2, o3, o4, o5, rfl, h1, h2, h3, h4, h5⟩ := h; exact all_cons (RdD.one h1) (all_cons rfl (all_cons rfl (all_cons (RdD.one h2) (all_cons (RdD.one h3) (all_cons (RdD.one h4) (all_cons (RdD.one h5) (rfl))))))), fun h s => by obtain ⟨o1, o2, o3, o4, o5, rfl, h1, h2, h3, h4, h5⟩ := h; exact ⟨o1, o2, o3, o4, o5, rfl, RdD.same h1 s, RdD.same h2 s, RdD.same h3 s, RdD.same h4 s, RdD.same h5 s⟩, fun h a b => by obtain ⟨o1, o2, o3, o4, o5, rfl, h1, h2, h3, h4, h5⟩ := h; exact ⟨o1, o2, o3, o4, o5, rfl, RdD.widen h1 a b, RdD.widen h2 a b, RdD.widen h3 a b, RdD.widen h4 a b, RdD.widen h5 a b⟩, fun h => by obtain ⟨o1, o2, o3, o4, o5, rfl, h1, h2, h3, h4, h5⟩ := h; exact ⟨o1, o2, o3, o4, o5, rfl, RdD.any h1, RdD.any h2, RdD.any h3, RdD.any h4, RdD.any h5⟩⟩
theorem Cluster.op {w : World} {lo hi : Nat} {cs : List Value} {x : Cluster} (h : Dat.R w lo hi cs x) : ∃ o1 o2 o3 o4 o5, cs = [o1, .int .i64 x.graph.workers, .int .i64 x.graph.cap, o2, o3, o4, o5] ∧ RdD w lo hi o1 x.graph.nodes ∧ RdD w lo hi o2 x.workers ∧ RdD w lo hi o3 x.links ∧ RdD w lo hi o4 x.tokens ∧ RdD w lo hi o5 x.news := h
theorem Cluster.mkR {w : World} {lo hi : Nat} {o1 o2 o3 o4 o5 : Value} (x : Cluster) (h1 : RdD w lo hi o1 x.graph.nodes) (h2 : RdD w lo hi o2 x.workers) (h3 : RdD w lo hi o3 x.links) (h4 : RdD w lo hi o4 x.tokens) (h5 : RdD w lo hi o5 x.news) : Dat.R w lo hi [o1, .int .i64 x.graph.workers, .int .i64 x.graph.cap, o2, o3, o4, o5] x := ⟨o1, o2, o3, o4, o5, rfl, h1, h2, h3, h4, h5⟩
def cntCluster (x : Cluster) : Nat := cntGraph x.graph + cntL cntWorker x.workers + cntL cntLink x.links + x.tokens.length + x.news.length
theorem Node.opD {w : World} {lo hi : Nat} {q0 q1 q2 o1 : Value} {x : Node} (h : Dat.R w lo hi [q0, q1, q2, o1] x) : RdD w lo hi o1 x.outs := by
  obtain ⟨u, e, h1⟩ := Node.op h
  simp only [List.cons.injEq, and_true] at e
  obtain ⟨rfl, rfl, rfl, rfl⟩ := e
  exact h1
theorem Graph.opD {w : World} {lo hi : Nat} {o1 q1 q2 : Value} {x : Graph} (h : Dat.R w lo hi [o1, q1, q2] x) : RdD w lo hi o1 x.nodes := by
  obtain ⟨u, e, h1⟩ := Graph.op h
  simp only [List.cons.injEq, and_true] at e
  obtain ⟨rfl, rfl, rfl⟩ := e
  exact h1
theorem Worker.opD {w : World} {lo hi : Nat} {o1 o2 o3 o4 o5 o6 o7 o8 : Value} {x : Worker} (h : Dat.R w lo hi [o1, o2, o3, o4, o5, o6, o7, o8] x) : RdD w lo hi o1 x.queue ∧ RdD w lo hi o2 x.staged ∧ RdD w lo hi o3 x.inputs ∧ RdD w lo hi o4 x.cells ∧ RdD w lo hi o5 x.sums ∧ RdD w lo hi o6 x.black ∧ RdD w lo hi o7 x.caps ∧ RdD w lo hi o8 x.dones := by
  obtain ⟨u0, u1, u2, u3, u4, u5, u6, u7, e, h0, h1, h2, h3, h4, h5, h6, h7⟩ := Worker.op h
  simp only [List.cons.injEq, and_true] at e
  obtain ⟨rfl, rfl, rfl, rfl, rfl, rfl, rfl, rfl⟩ := e
  exact ⟨h0, h1, h2, h3, h4, h5, h6, h7⟩
theorem Link.opD {w : World} {lo hi : Nat} {q0 o1 q2 q3 q4 q5 : Value} {x : Link} (h : Dat.R w lo hi [q0, o1, q2, q3, q4, q5] x) : RdD w lo hi o1 x.queue := by
  obtain ⟨u, e, h1⟩ := Link.op h
  simp only [List.cons.injEq, and_true] at e
  obtain ⟨rfl, rfl, rfl, rfl, rfl, rfl⟩ := e
  exact h1
theorem Cluster.opD {w : World} {lo hi : Nat} {o1 q1 q2 o2 o3 o4 o5 : Value} {x : Cluster} (h : Dat.R w lo hi [o1, q1, q2, o2, o3, o4, o5] x) : RdD w lo hi o1 x.graph.nodes ∧ RdD w lo hi o2 x.workers ∧ RdD w lo hi o3 x.links ∧ RdD w lo hi o4 x.tokens ∧ RdD w lo hi o5 x.news := by
  obtain ⟨u0, u1, u2, u3, u4, e, h0, h1, h2, h3, h4⟩ := Cluster.op h
  simp only [List.cons.injEq, and_true] at e
  obtain ⟨rfl, rfl, rfl, rfl, rfl, rfl, rfl⟩ := e
  exact ⟨h0, h1, h2, h3, h4⟩
instance : Own1 Node := { (inferInstance : Dat Node) with
  O := fun w lo hi cs x => ∃ o1, cs = [.int .i64 x.kind, .int .i64 x.a, .int .i64 x.b, o1] ∧ SepL [o1] ∧ Own w lo hi 1 o1 (List.flatMap (Enc.enc (α := Int)) x.outs)
  rd := fun ⟨o1, e, s, h1⟩ => ⟨o1, e, h1.rdD⟩
  kp := fun ⟨o1, e, s, h1⟩ k => ⟨o1, e, s, h1.kp (k.sub (fpr_mem (by rw [e]; simp)))⟩
  wide := fun ⟨o1, e, s, h1⟩ a b => ⟨o1, e, s, h1.widen a b⟩
  inn := by rintro w lo hi cs x ⟨o1, rfl, s, h1⟩; exact FpA.all ⟨(fun _ h => absurd h List.not_mem_nil), (fun _ h => absurd h List.not_mem_nil), (fun _ h => absurd h List.not_mem_nil), h1.innb, trivial⟩
  nd := by rintro w lo hi cs x ⟨o1, rfl, s, h1⟩; exact (show (fpr [o1]).Nodup from SepL.nd s) }
theorem Node.opO {w : World} {lo hi : Nat} {cs : List Value} {x : Node} (h : Own1.O w lo hi cs x) : ∃ o1, cs = [.int .i64 x.kind, .int .i64 x.a, .int .i64 x.b, o1] ∧ SepL [o1] ∧ Own w lo hi 1 o1 (List.flatMap (Enc.enc (α := Int)) x.outs) := h
theorem Node.mkO {w : World} {lo hi : Nat} {o1 : Value} (x : Node) (s : SepL [o1]) (h1 : Own w lo hi 1 o1 (List.flatMap (Enc.enc (α := Int)) x.outs)) : Own1.O w lo hi [.int .i64 x.kind, .int .i64 x.a, .int .i64 x.b, o1] x := ⟨o1, rfl, s, h1⟩
theorem Node.opL {w : World} {lo hi : Nat} {q0 q1 q2 o1 : Value} {x : Node} (h : Own1.O w lo hi [q0, q1, q2, o1] x) : SepL [o1] ∧ Own w lo hi 1 o1 (List.flatMap (Enc.enc (α := Int)) x.outs) := by
  obtain ⟨p1, e, s, h1⟩ := h
  simp only [List.cons.injEq, and_true] at e
  obtain ⟨rfl, rfl, rfl, rfl⟩ := e
  exact ⟨s, h1⟩
instance : Own1 Worker := { (inferInstance : Dat Worker) with
  O := fun w lo hi cs x => ∃ o1 o2 o3 o4 o5 o6 o7 o8, cs = [o1, o2, o3, o4, o5, o6, o7, o8] ∧ SepL [o1, o2, o3, o4, o5, o6, o7, o8] ∧ Own w lo hi 5 o1 (List.flatMap (Enc.enc (α := Record)) x.queue) ∧ Own w lo hi 5 o2 (List.flatMap (Enc.enc (α := Record)) x.staged) ∧ Own w lo hi 5 o3 (List.flatMap (Enc.enc (α := Record)) x.inputs) ∧ Own w lo hi 4 o4 (List.flatMap (Enc.enc (α := Cell)) x.cells) ∧ Own w lo hi 1 o5 (List.flatMap (Enc.enc (α := Int)) x.sums) ∧ Own w lo hi 1 o6 (List.flatMap (Enc.enc (α := Bool)) x.black) ∧ Own w lo hi 1 o7 (List.flatMap (Enc.enc (α := Bool)) x.caps) ∧ Own w lo hi 2 o8 (List.flatMap (Enc.enc (α := Done)) x.dones)
  rd := fun ⟨o1, o2, o3, o4, o5, o6, o7, o8, e, s, h1, h2, h3, h4, h5, h6, h7, h8⟩ => ⟨o1, o2, o3, o4, o5, o6, o7, o8, e, h1.rdD, h2.rdD, h3.rdD, h4.rdD, h5.rdD, h6.rdD, h7.rdD, h8.rdD⟩
  kp := fun ⟨o1, o2, o3, o4, o5, o6, o7, o8, e, s, h1, h2, h3, h4, h5, h6, h7, h8⟩ k => ⟨o1, o2, o3, o4, o5, o6, o7, o8, e, s, h1.kp (k.sub (fpr_mem (by rw [e]; simp))), h2.kp (k.sub (fpr_mem (by rw [e]; simp))), h3.kp (k.sub (fpr_mem (by rw [e]; simp))), h4.kp (k.sub (fpr_mem (by rw [e]; simp))), h5.kp (k.sub (fpr_mem (by rw [e]; simp))), h6.kp (k.sub (fpr_mem (by rw [e]; simp))), h7.kp (k.sub (fpr_mem (by rw [e]; simp))), h8.kp (k.sub (fpr_mem (by rw [e]; simp)))⟩
  wide := fun ⟨o1, o2, o3, o4, o5, o6, o7, o8, e, s, h1, h2, h3, h4, h5, h6, h7, h8⟩ a b => ⟨o1, o2, o3, o4, o5, o6, o7, o8, e, s, h1.widen a b, h2.widen a b, h3.widen a b, h4.widen a b, h5.widen a b, h6.widen a b, h7.widen a b, h8.widen a b⟩
  inn := by rintro w lo hi cs x ⟨o1, o2, o3, o4, o5, o6, o7, o8, rfl, s, h1, h2, h3, h4, h5, h6, h7, h8⟩; exact FpA.all ⟨h1.innb, h2.innb, h3.innb, h4.innb, h5.innb, h6.innb, h7.innb, h8.innb, trivial⟩
  nd := by rintro w lo hi cs x ⟨o1, o2, o3, o4, o5, o6, o7, o8, rfl, s, h1, h2, h3, h4, h5, h6, h7, h8⟩; exact (show (fpr [o1, o2, o3, o4, o5, o6, o7, o8]).Nodup from SepL.nd s) }
theorem Worker.opO {w : World} {lo hi : Nat} {cs : List Value} {x : Worker} (h : Own1.O w lo hi cs x) : ∃ o1 o2 o3 o4 o5 o6 o7 o8, cs = [o1, o2, o3, o4, o5, o6, o7, o8] ∧ SepL [o1, o2, o3, o4, o5, o6, o7, o8] ∧ Own w lo hi 5 o1 (List.flatMap (Enc.enc (α := Record)) x.queue) ∧ Own w lo hi 5 o2 (List.flatMap (Enc.enc (α := Record)) x.staged) ∧ Own w lo hi 5 o3 (List.flatMap (Enc.enc (α := Record)) x.inputs) ∧ Own w lo hi 4 o4 (List.flatMap (Enc.enc (α := Cell)) x.cells) ∧ Own w lo hi 1 o5 (List.flatMap (Enc.enc (α := Int)) x.sums) ∧ Own w lo hi 1 o6 (List.flatMap (Enc.enc (α := Bool)) x.black) ∧ Own w lo hi 1 o7 (List.flatMap (Enc.enc (α := Bool)) x.caps) ∧ Own w lo hi 2 o8 (List.flatMap (Enc.enc (α := Done)) x.dones) := h
theorem Worker.mkO {w : World} {lo hi : Nat} {o1 o2 o3 o4 o5 o6 o7 o8 : Value} (x : Worker) (s : SepL [o1, o2, o3, o4, o5, o6, o7, o8]) (h1 : Own w lo hi 5 o1 (List.flatMap (Enc.enc (α := Record)) x.queue)) (h2 : Own w lo hi 5 o2 (List.flatMap (Enc.enc (α := Record)) x.staged)) (h3 : Own w lo hi 5 o3 (List.flatMap (Enc.enc (α := Record)) x.inputs)) (h4 : Own w lo hi 4 o4 (List.flatMap (Enc.enc (α := Cell)) x.cells)) (h5 : Own w lo hi 1 o5 (List.flatMap (Enc.enc (α := Int)) x.sums)) (h6 : Own w lo hi 1 o6 (List.flatMap (Enc.enc (α := Bool)) x.black)) (h7 : Own w lo hi 1 o7 (List.flatMap (Enc.enc (α := Bool)) x.caps)) (h8 : Own w lo hi 2 o8 (List.flatMap (Enc.enc (α := Done)) x.dones)) : Own1.O w lo hi [o1, o2, o3, o4, o5, o6, o7, o8] x := ⟨o1, o2, o3, o4, o5, o6, o7, o8, rfl, s, h1, h2, h3, h4, h5, h6, h7, h8⟩
theorem Worker.opL {w : World} {lo hi : Nat} {o1 o2 o3 o4 o5 o6 o7 o8 : Value} {x : Worker} (h : Own1.O w lo hi [o1, o2, o3, o4, o5, o6, o7, o8] x) : SepL [o1, o2, o3, o4, o5, o6, o7, o8] ∧ Own w lo hi 5 o1 (List.flatMap (Enc.enc (α := Record)) x.queue) ∧ Own w lo hi 5 o2 (List.flatMap (Enc.enc (α := Record)) x.staged) ∧ Own w lo hi 5 o3 (List.flatMap (Enc.enc (α := Record)) x.inputs) ∧ Own w lo hi 4 o4 (List.flatMap (Enc.enc (α := Cell)) x.cells) ∧ Own w lo hi 1 o5 (List.flatMap (Enc.enc (α := Int)) x.sums) ∧ Own w lo hi 1 o6 (List.flatMap (Enc.enc (α := Bool)) x.black) ∧ Own w lo hi 1 o7 (List.flatMap (Enc.enc (α := Bool)) x.caps) ∧ Own w lo hi 2 o8 (List.flatMap (Enc.enc (α := Done)) x.dones) := by
  obtain ⟨p1, p2, p3, p4, p5, p6, p7, p8, e, s, h1, h2, h3, h4, h5, h6, h7, h8⟩ := h
  simp only [List.cons.injEq, and_true] at e
  obtain ⟨rfl, rfl, rfl, rfl, rfl, rfl, rfl, rfl⟩ := e
  exact ⟨s, h1, h2, h3, h4, h5, h6, h7, h8⟩
instance : Own1 Link := { (inferInstance : Dat Link) with
  O := fun w lo hi cs x => ∃ o1, cs = [.int .i64 x.cap, o1, .int .i64 x.credits, .int .i64 x.back, .int .i64 x.sent, .int .i64 x.got] ∧ SepL [o1] ∧ Own w lo hi 5 o1 (List.flatMap (Enc.enc (α := Record)) x.queue)
  rd := fun ⟨o1, e, s, h1⟩ => ⟨o1, e, h1.rdD⟩
  kp := fun ⟨o1, e, s, h1⟩ k => ⟨o1, e, s, h1.kp (k.sub (fpr_mem (by rw [e]; simp)))⟩
  wide := fun ⟨o1, e, s, h1⟩ a b => ⟨o1, e, s, h1.widen a b⟩
  inn := by rintro w lo hi cs x ⟨o1, rfl, s, h1⟩; exact FpA.all ⟨(fun _ h => absurd h List.not_mem_nil), h1.innb, (fun _ h => absurd h List.not_mem_nil), (fun _ h => absurd h List.not_mem_nil), (fun _ h => absurd h List.not_mem_nil), (fun _ h => absurd h List.not_mem_nil), trivial⟩
  nd := by rintro w lo hi cs x ⟨o1, rfl, s, h1⟩; exact (show (fpr [o1]).Nodup from SepL.nd s) }
theorem Link.opO {w : World} {lo hi : Nat} {cs : List Value} {x : Link} (h : Own1.O w lo hi cs x) : ∃ o1, cs = [.int .i64 x.cap, o1, .int .i64 x.credits, .int .i64 x.back, .int .i64 x.sent, .int .i64 x.got] ∧ SepL [o1] ∧ Own w lo hi 5 o1 (List.flatMap (Enc.enc (α := Record)) x.queue) := h
theorem Link.mkO {w : World} {lo hi : Nat} {o1 : Value} (x : Link) (s : SepL [o1]) (h1 : Own w lo hi 5 o1 (List.flatMap (Enc.enc (α := Record)) x.queue)) : Own1.O w lo hi [.int .i64 x.cap, o1, .int .i64 x.credits, .int .i64 x.back, .int .i64 x.sent, .int .i64 x.got] x := ⟨o1, rfl, s, h1⟩
theorem Link.opL {w : World} {lo hi : Nat} {q0 q1 q2 q3 q4 o1 : Value} {x : Link} (h : Own1.O w lo hi [q0, o1, q1, q2, q3, q4] x) : SepL [o1] ∧ Own w lo hi 5 o1 (List.flatMap (Enc.enc (α := Record)) x.queue) := by
  obtain ⟨p1, e, s, h1⟩ := h
  simp only [List.cons.injEq, and_true] at e
  obtain ⟨rfl, rfl, rfl, rfl, rfl, rfl⟩ := e
  exact ⟨s, h1⟩
def okStamp (x : Stamp) : Prop := (rg x.epoch) ∧ (rg x.turn)
def okRecord (x : Record) : Prop := (rg x.op) ∧ (okStamp x.stamp) ∧ (rg x.key) ∧ (rg x.val)
def okCell (x : Cell) : Prop := (rg x.op) ∧ (rg x.epoch) ∧ (rg x.key) ∧ (rg x.val)
def okDone (x : Done) : Prop := (rg x.epoch) ∧ (True)
def okToken (x : Token) : Prop := (True) ∧ (rg x.place) ∧ (rg x.sum) ∧ (True) ∧ (True)
def okNews (x : News) : Prop := (rg x.dest) ∧ (rg x.epoch) ∧ (True)
def okCount (x : Count) : Prop := (okStamp x.stamp) ∧ (rg x.n)
def okNode (x : Node) : Prop := (rg x.kind) ∧ (rg x.a) ∧ (rg x.b) ∧ (∀ y ∈ x.outs, rg y)
def okGraph (x : Graph) : Prop := (∀ y ∈ x.nodes, okNode y) ∧ (rg x.workers) ∧ (rg x.cap)
def okWorker (x : Worker) : Prop := (∀ y ∈ x.queue, okRecord y) ∧ (∀ y ∈ x.staged, okRecord y) ∧ (∀ y ∈ x.inputs, okRecord y) ∧ (∀ y ∈ x.cells, okCell y) ∧ (∀ y ∈ x.sums, rg y) ∧ (∀ y ∈ x.black, True) ∧ (∀ y ∈ x.caps, True) ∧ (∀ y ∈ x.dones, okDone y)
def okLink (x : Link) : Prop := (rg x.cap) ∧ (∀ y ∈ x.queue, okRecord y) ∧ (rg x.credits) ∧ (rg x.back) ∧ (rg x.sent) ∧ (rg x.got)
def okCluster (x : Cluster) : Prop := (okGraph x.graph) ∧ (∀ y ∈ x.workers, okWorker y) ∧ (∀ y ∈ x.links, okLink y) ∧ (∀ y ∈ x.tokens, okToken y) ∧ (∀ y ∈ x.news, okNews y)
/-! ### clusters of the call's own -/
section
variable {w w' : World} {lo hi lo' hi' : Nat} {o1 o2 o3 o4 o5 : Value} {x : Cluster} {y : Option Nat}
def OwC (w : World) (lo hi : Nat) (o1 o2 o3 o4 o5 : Value) (x : Cluster) : Prop :=
  ∃ f1 f2 f3, OwF w lo hi o1 x.graph.nodes f1 ∧ OwF w lo hi o2 x.workers f2 ∧ OwF w lo hi o3 x.links f3 ∧ Own w lo hi 5 o4 (List.flatMap (Enc.enc (α := Token)) x.tokens) ∧ Own w lo hi 3 o5 (List.flatMap (Enc.enc (α := News)) x.news) ∧ DjL [f1, f2, f3, blks o4, blks o5]
theorem OwC.same (h : OwC w lo hi o1 o2 o3 o4 o5 x) (s : Same w w' lo hi) : OwC w' lo hi o1 o2 o3 o4 o5 x := by
  obtain ⟨f1, f2, f3, h1, h2, h3, h4, h5, sp⟩ := h
  exact ⟨f1, f2, f3, h1.same s, h2.same s, h3.same s, h4.kp ⟨s.size, fun b hb hl => s.block b (h4.in2 b hb).1 (h4.in2 b hb).2 hl⟩, h5.kp ⟨s.size, fun b hb hl => s.block b (h5.in2 b hb).1 (h5.in2 b hb).2 hl⟩, sp⟩
theorem OwC.ext (h : OwC w lo hi o1 o2 o3 o4 o5 x) (e : Ext w w') : OwC w' lo hi o1 o2 o3 o4 o5 x := h.same (e.keeps (by simp))
theorem OwC.mod (h : OwC w lo hi o1 o2 o3 o4 o5 x) (m : Mod w w' y) (hx : ∀ g, y = some g → g < lo ∨ hi ≤ g) : OwC w' lo hi o1 o2 o3 o4 o5 x := h.same (m.keeps hx)
theorem OwC.modR (h : OwC w lo hi o1 o2 o3 o4 o5 x) (m : ModR w w' lo' hi') (hx : hi ≤ lo' ∨ hi' ≤ lo) : OwC w' lo hi o1 o2 o3 o4 o5 x := h.same (m.keeps hx)
theorem OwC.widen (h : OwC w lo hi o1 o2 o3 o4 o5 x) (a : lo' ≤ lo) (b : hi ≤ hi') : OwC w lo' hi' o1 o2 o3 o4 o5 x := by
  obtain ⟨f1, f2, f3, h1, h2, h3, h4, h5, sp⟩ := h
  exact ⟨f1, f2, f3, h1.widen a b, h2.widen a b, h3.widen a b, h4.widen a b, h5.widen a b, sp⟩
theorem OwC.rd1 (h : OwC w lo hi o1 o2 o3 o4 o5 x) : RdD w lo hi o1 x.graph.nodes := by obtain ⟨f1, f2, f3, h1, h2, h3, h4, h5, sp⟩ := h; exact h1.rd
theorem OwC.rd2 (h : OwC w lo hi o1 o2 o3 o4 o5 x) : RdD w lo hi o2 x.workers := by obtain ⟨f1, f2, f3, h1, h2, h3, h4, h5, sp⟩ := h; exact h2.rd
theorem OwC.rd3 (h : OwC w lo hi o1 o2 o3 o4 o5 x) : RdD w lo hi o3 x.links := by obtain ⟨f1, f2, f3, h1, h2, h3, h4, h5, sp⟩ := h; exact h3.rd
theorem OwC.rd4 (h : OwC w lo hi o1 o2 o3 o4 o5 x) : RdD w lo hi o4 x.tokens := by obtain ⟨f1, f2, f3, h1, h2, h3, h4, h5, sp⟩ := h; exact h4.rdD
theorem OwC.rd5 (h : OwC w lo hi o1 o2 o3 o4 o5 x) : RdD w lo hi o5 x.news := by obtain ⟨f1, f2, f3, h1, h2, h3, h4, h5, sp⟩ := h; exact h5.rdD
theorem OwC.setW {P : Program} {t i lo2 hi2 : Nat} {z cs : List Value} {y : Worker} (hT : StT P t (Dat.sz Worker) z) (h : OwC w lo hi o1 o2 o3 o4 o5 x) (hi' : i < x.workers.length) (ho : Own1.O w lo2 hi2 cs y) (hd : hi ≤ lo2) (hl : lo ≤ lo2) (hh : hi ≤ hi2) :
    ∃ w', (storeVar t ⟨sblk o2, soff o2 + i * Dat.sz Worker, none⟩ (.agg cs.toArray)).run P w = .ok () w' ∧ Mod w w' o2.ownBlock ∧ OwC w' lo hi2 o1 o2 o3 o4 o5 { x with workers := x.workers.set i y } := by
  obtain ⟨f1, f2, f3, h1, h2, h3, h4, h5, ⟨d1, d2, d3, d4, _⟩, ⟨d5, d6, d7, _⟩, sp⟩ := h
  have far : ∀ {f : List Nat}, (∀ b ∈ f, lo ≤ b ∧ b < hi) → Dj f (fpr cs) := fun hf b hb hc => by have := hf b hb; have := Own1.inn ho b hc; omega
  obtain ⟨w', f', hr, hm, h2', kq, hin⟩ := h2.set hT hi' ho (far h2.in2) hl hh
  exact ⟨w', hr, hm, f1, f', f3, (h1.kp (kq.kp d1)).widen (Nat.le_refl _) hh, h2', (h3.kp (kq.kp d5.symm)).widen (Nat.le_refl _) hh, (h4.kp (kq.kp d6.symm)).widen (Nat.le_refl _) hh, (h5.kp (kq.kp d7.symm)).widen (Nat.le_refl _) hh,
    ⟨d1.grow hin (far h1.in2), d2, d3, d4, trivial⟩, ⟨(d5.symm.grow hin (far h3.in2)).symm, (d6.symm.grow hin (far h4.in2)).symm, (d7.symm.grow hin (far h5.in2)).symm, trivial⟩, sp⟩
theorem OwC.setL {P : Program} {t i lo2 hi2 : Nat} {z cs : List Value} {y : Link} (hT : StT P t (Dat.sz Link) z) (h : OwC w lo hi o1 o2 o3 o4 o5 x) (hi' : i < x.links.length) (ho : Own1.O w lo2 hi2 cs y) (hd : hi ≤ lo2) (hl : lo ≤ lo2) (hh : hi ≤ hi2) :
    ∃ w', (storeVar t ⟨sblk o3, soff o3 + i * Dat.sz Link, none⟩ (.agg cs.toArray)).run P w = .ok () w' ∧ Mod w w' o3.ownBlock ∧ OwC w' lo hi2 o1 o2 o3 o4 o5 { x with links := x.links.set i y } := by
  obtain ⟨f1, f2, f3, h1, h2, h3, h4, h5, ⟨d1, d2, d3, d4, _⟩, ⟨d5, d6, d7, _⟩, ⟨d8, d9, _⟩, sp⟩ := h
  have far : ∀ {f : List Nat}, (∀ b ∈ f, lo ≤ b ∧ b < hi) → Dj f (fpr cs) := fun hf b hb hc => by have := hf b hb; have := Own1.inn ho b hc; omega
  obtain ⟨w', f', hr, hm, h3', kq, hin⟩ := h3.set hT hi' ho (far h3.in2) hl hh
  exact ⟨w', hr, hm, f1, f2, f', (h1.kp (kq.kp d2)).widen (Nat.le_refl _) hh, (h2.kp (kq.kp d5)).widen (Nat.le_refl _) hh, h3', (h4.kp (kq.kp d8.symm)).widen (Nat.le_refl _) hh, (h5.kp (kq.kp d9.symm)).widen (Nat.le_refl _) hh,
    ⟨d1, d2.grow hin (far h1.in2), d3, d4, trivial⟩, ⟨d5.grow hin (far h2.in2), d6, d7, trivial⟩, ⟨(d8.symm.grow hin (far h4.in2)).symm, (d9.symm.grow hin (far h5.in2)).symm, trivial⟩, sp⟩
theorem OwC.of2 (x : Cluster) {a b a2 b2 a3 b3 : Nat} {f1 : List Nat} (h1 : OwF w a b o1 x.graph.nodes f1) (h2 : OwS w a2 b2 o2 x.workers) (h3 : OwS w a3 b3 o3 x.links) (h4 : Own w a b 5 o4 (List.flatMap (Enc.enc (α := Token)) x.tokens)) (h5 : Own w a b 3 o5 (List.flatMap (Enc.enc (α := News)) x.news)) (dj : DjL [f1, blks o4, blks o5])
    (hb : lo ≤ a ∧ b ≤ hi ∧ lo ≤ a2 ∧ b2 ≤ hi ∧ lo ≤ a3 ∧ b3 ≤ hi) (hd : (b ≤ a2 ∨ b2 ≤ a) ∧ (b ≤ a3 ∨ b3 ≤ a) ∧ (b2 ≤ a3 ∨ b3 ≤ a2)) : OwC w lo hi o1 o2 o3 o4 o5 x := by
  obtain ⟨f2, h2⟩ := h2.owf
  obtain ⟨f3, h3⟩ := h3.owf
  obtain ⟨p1, q1, p2, q2, p3, q3⟩ := hb
  obtain ⟨d1, d2, d5⟩ := hd
  obtain ⟨⟨e1, e2, _⟩, ⟨e3, _⟩, _⟩ := dj
  exact ⟨f1, f2, f3, h1.widen p1 q1, h2.widen p2 q2, h3.widen p3 q3, h4.widen p1 q1, h5.widen p1 q1,
    ⟨Dj.apart h1.in2 h2.in2 d1, Dj.apart h1.in2 h3.in2 d2, e1, e2, trivial⟩, ⟨Dj.apart h2.in2 h3.in2 d5, (Dj.apart h4.in2 h2.in2 d1).symm, (Dj.apart h5.in2 h2.in2 d1).symm, trivial⟩,
    ⟨(Dj.apart h4.in2 h3.in2 d2).symm, (Dj.apart h5.in2 h3.in2 d2).symm, trivial⟩, ⟨e3, trivial⟩, trivial, trivial⟩
theorem Dj.nilR {f : List Nat} : Dj f (blks (.slice none 0 0)) := fun b _ hc => by simp [blks, Value.ownBlock] at hc
theorem OwC.of3 (x : Cluster) {a b a2 b2 b3 : Nat} {f1 f2 f3 : List Nat} (h1 : OwF w a b o1 x.graph.nodes f1) (h2 : OwF w a2 b2 o2 x.workers f2) (h3 : OwF w a2 b3 o3 x.links f3) (h4 : Own w a b 5 o4 (List.flatMap (Enc.enc (α := Token)) x.tokens)) (h5 : Own w a b 3 o5 (List.flatMap (Enc.enc (α := News)) x.news)) (dj : DjL [f1, blks o4, blks o5]) (d5 : Dj f2 f3)
    (hb : lo ≤ a ∧ b ≤ hi ∧ lo ≤ a2 ∧ b2 ≤ hi ∧ b3 ≤ hi ∧ b ≤ a2) : OwC w lo hi o1 o2 o3 o4 o5 x := by
  obtain ⟨p1, q1, p2, q2, q3, d⟩ := hb
  obtain ⟨⟨e1, e2, _⟩, ⟨e3, _⟩, _⟩ := dj
  exact ⟨f1, f2, f3, h1.widen p1 q1, h2.widen p2 q2, h3.widen p2 q3, h4.widen p1 q1, h5.widen p1 q1,
    ⟨Dj.apart h1.in2 h2.in2 (.inl d), Dj.apart h1.in2 h3.in2 (.inl d), e1, e2, trivial⟩, ⟨d5, (Dj.apart h4.in2 h2.in2 (.inl d)).symm, (Dj.apart h5.in2 h2.in2 (.inl d)).symm, trivial⟩,
    ⟨(Dj.apart h4.in2 h3.in2 (.inl d)).symm, (Dj.apart h5.in2 h3.in2 (.inl d)).symm, trivial⟩, ⟨e3, trivial⟩, trivial, trivial⟩
/-- A cluster of the call's own that goes on: behind a pointer to block 'b'. -/
def OwR (w : World) (lo hi b : Nat) (o1 o2 o3 o4 o5 : Value) (x : Cluster) (ok : Bool) : Prop :=
  ∃ f1 f2 f3, Blk w b [o1, .int .i64 x.graph.workers, .int .i64 x.graph.cap, o2, o3, o4, o5, .bool ok] ∧ lo ≤ b ∧ OwF w lo hi o1 x.graph.nodes f1 ∧ OwF w lo hi o2 x.workers f2 ∧ OwF w lo hi o3 x.links f3 ∧ Own w lo hi 5 o4 (List.flatMap (Enc.enc (α := Token)) x.tokens) ∧ Own w lo hi 3 o5 (List.flatMap (Enc.enc (α := News)) x.news) ∧ DjL [f1, f2, f3, blks o4, blks o5, [b]]
theorem OwR.of {b : Nat} {ok : Bool} (h : OwC w lo hi o1 o2 o3 o4 o5 x) (hB : Blk w b [o1, .int .i64 x.graph.workers, .int .i64 x.graph.cap, o2, o3, o4, o5, .bool ok]) (hd : b < lo ∨ hi ≤ b) (h1 : lo' ≤ lo) (h2 : lo' ≤ b) (h3 : hi ≤ hi') : OwR w lo' hi' b o1 o2 o3 o4 o5 x ok := by
  obtain ⟨f1, f2, f3, a1, a2, a3, a4, a5, ⟨d1, d2, d3, d4, _⟩, ⟨d5, d6, d7, _⟩, ⟨d8, d9, _⟩, ⟨d10, _⟩, _⟩ := h
  have far : ∀ {f : List Nat}, (∀ y ∈ f, lo ≤ y ∧ y < hi) → Dj f [b] := fun hf y hy hc => by have := hf y hy; simp at hc; omega
  exact ⟨f1, f2, f3, hB, h2, a1.widen h1 h3, a2.widen h1 h3, a3.widen h1 h3, a4.widen h1 h3, a5.widen h1 h3,
    ⟨d1, d2, d3, d4, far a1.in2, trivial⟩, ⟨d5, d6, d7, far a2.in2, trivial⟩, ⟨d8, d9, far a3.in2, trivial⟩, ⟨d10, far a4.in2, trivial⟩, ⟨far a5.in2, trivial⟩, trivial, trivial⟩
theorem OwC.blk2 (h : OwC w lo hi o1 o2 o3 o4 o5 x) : ∀ g, o2.ownBlock = some g → lo ≤ g ∧ g < hi := by obtain ⟨f1, f2, f3, h1, h2, h3, h4, h5, sp⟩ := h; exact fun g hg => h2.ows.inn g hg
theorem OwC.blk3 (h : OwC w lo hi o1 o2 o3 o4 o5 x) : ∀ g, o3.ownBlock = some g → lo ≤ g ∧ g < hi := by obtain ⟨f1, f2, f3, h1, h2, h3, h4, h5, sp⟩ := h; exact fun g hg => h3.ows.inn g hg
theorem OwC.of (x : Cluster) {a1 b1 a2 b2 a3 b3 a4 b4 a5 b5 : Nat} (h1 : OwS w a1 b1 o1 x.graph.nodes) (h2 : OwS w a2 b2 o2 x.workers) (h3 : OwS w a3 b3 o3 x.links) (h4 : Own w a4 b4 5 o4 (List.flatMap (Enc.enc (α := Token)) x.tokens)) (h5 : Own w a5 b5 3 o5 (List.flatMap (Enc.enc (α := News)) x.news))
    (hb : lo ≤ a1 ∧ b1 ≤ hi ∧ lo ≤ a2 ∧ b2 ≤ hi ∧ lo ≤ a3 ∧ b3 ≤ hi ∧ lo ≤ a4 ∧ b4 ≤ hi ∧ lo ≤ a5 ∧ b5 ≤ hi)
    (hd : (b1 ≤ a2 ∨ b2 ≤ a1) ∧ (b1 ≤ a3 ∨ b3 ≤ a1) ∧ (b1 ≤ a4 ∨ b4 ≤ a1) ∧ (b1 ≤ a5 ∨ b5 ≤ a1) ∧ (b2 ≤ a3 ∨ b3 ≤ a2) ∧ (b2 ≤ a4 ∨ b4 ≤ a2) ∧ (b2 ≤ a5 ∨ b5 ≤ a2) ∧ (b3 ≤ a4 ∨ b4 ≤ a3) ∧ (b3 ≤ a5 ∨ b5 ≤ a3) ∧ (b4 ≤ a5 ∨ b5 ≤ a4)) : OwC w lo hi o1 o2 o3 o4 o5 x := by
  obtain ⟨f1, h1⟩ := h1.owf
  obtain ⟨f2, h2⟩ := h2.owf
  obtain ⟨f3, h3⟩ := h3.owf
  obtain ⟨p1, q1, p2, q2, p3, q3, p4, q4, p5, q5⟩ := hb
  obtain ⟨d1, d2, d3, d4, d5, d6, d7, d8, d9, d10⟩ := hd
  exact ⟨f1, f2, f3, h1.widen p1 q1, h2.widen p2 q2, h3.widen p3 q3, h4.widen p4 q4, h5.widen p5 q5,
    ⟨Dj.apart h1.in2 h2.in2 d1, Dj.apart h1.in2 h3.in2 d2, Dj.apart h1.in2 h4.in2 d3, Dj.apart h1.in2 h5.in2 d4, trivial⟩, ⟨Dj.apart h2.in2 h3.in2 d5, Dj.apart h2.in2 h4.in2 d6, Dj.apart h2.in2 h5.in2 d7, trivial⟩,
    ⟨Dj.apart h3.in2 h4.in2 d8, Dj.apart h3.in2 h5.in2 d9, trivial⟩, ⟨Dj.apart h4.in2 h5.in2 d10, trivial⟩, trivial, trivial⟩
end
def mkCell (k : Nat) : Cell := ⟨((k : Nat) : Int), ((k + 1 : Nat) : Int), ((k + 1 + 1 : Nat) : Int), ((k + 1 + 1 + 1 : Nat) : Int)⟩
def ordI (a b : Int) : Int := if a < b then -1 else if b < a then 1 else 0
/-- What 'sz..' leaves of 'n' behind 'm' elements. -/
def szM (m : Nat) (n : Int) : Int := if n - m < 0 then -1 else n - m
theorem sz_no {m : Nat} {n : Int} (h : n ≤ 1048576) (h0 : 0 ≤ n) (hm : m ≤ maxLen) (hc : decide (IntKind.i64.wrap (n - (m : Int)) < 0) = true) : Value.int .i64 (-1) = .int .i64 (szM m n) := by
  unfold maxLen at hm
  rw [wrap_in (by omega) (by omega)] at hc
  have : n - (m : Int) < 0 := by simpa using hc
  simp [szM, this]
theorem sz_yes {m : Nat} {n : Int} (h : n ≤ 1048576) (h0 : 0 ≤ n) (hm : m ≤ maxLen) (hc : decide (IntKind.i64.wrap (n - (m : Int)) < 0) = false) : Value.int .i64 (IntKind.i64.wrap (n - (m : Int))) = .int .i64 (szM m n) := by
  unfold maxLen at hm
  rw [wrap_in (by omega) (by omega)] at hc ⊢
  have : ¬ n - (m : Int) < 0 := by simpa using hc
  simp [szM, this]
theorem szM_ok {m : Nat} {n : Int} (h : decide (szM m n < 0) = false) (hn : 0 ≤ n ∧ n ≤ 1048576) : m ≤ 1048576 ∧ 0 ≤ szM m n ∧ szM m n ≤ 1048576 ∧ szM m n = n - m := by
  have h := of_decide_eq_false h
  simp only [szM] at *
  split at h
  · omega
  · rename_i hx
    rw [if_neg hx]; omega
theorem szM_no {m : Nat} {n : Int} (h : decide (szM m n < 0) = true) (_ : 0 ≤ n) : n < m := by
  have h := of_decide_eq_true h
  simp only [szM] at *
  split at h <;> omega
theorem sz_fin {X n : Int} {t : Nat} (h1 : (t : Int) ≤ n) (h2 : X = n - t) : Value.int .i64 X = .int .i64 (szM t n) := by
  rw [szM, if_neg (by omega), h2]
theorem sz_neg {n : Int} {t : Nat} (h : n < t) : Value.int .i64 (-1) = .int .i64 (szM t n) := by
  rw [szM, if_pos (by omega)]
section
variable {α : Type} {xs : List α} {f : α → Nat} {k : Nat}
theorem sum_step (h : k < xs.length) : ((xs.take (k + 1)).map f).sum = ((xs.take k).map f).sum + f xs[k] := by
  rw [List.take_succ_eq_append_getElem h, List.map_append, List.sum_append]
  simp only [List.map_cons, List.map_nil, List.sum_cons, List.sum_nil, Nat.add_zero]
theorem sum_le (h : k < xs.length) : ((xs.take k).map f).sum + f xs[k] ≤ (xs.map f).sum := by
  have : xs = xs.take k ++ xs[k] :: xs.drop (k + 1) := by rw [← List.drop_eq_getElem_cons h, List.take_append_drop]
  have h2 : (xs.map f).sum = ((xs.take k ++ xs[k] :: xs.drop (k + 1)).map f).sum := by rw [← this]
  rw [h2, List.map_append, List.sum_append, List.map_cons, List.sum_cons]; omega
theorem sum_all (h : xs.length ≤ k) : ((xs.take k).map f).sum = (xs.map f).sum := by rw [List.take_of_length_le h]
end
section
variable {α : Type} {xs ys : List α} {k : Nat}
theorem eq_len (h : ¬ xs.length = ys.length) : xs ≠ ys := fun e => h (by rw [e])
theorem eqS_step (hp : xs.take k = ys.take k) (h1 : k < xs.length) (h2 : k < ys.length) (h : xs[k] = ys[k]) : xs.take (k + 1) = ys.take (k + 1) := by
  rw [List.take_succ_eq_append_getElem h1, List.take_succ_eq_append_getElem h2, hp, h]
variable [DecidableEq α]
theorem eqS_no (h1 : k < xs.length) (h2 : k < ys.length) (h : ¬ xs[k] = ys[k]) : Value.bool false = .bool (decide (xs = ys)) := by
  have : xs ≠ ys := fun e => h (by subst e; rfl)
  simp [this]
theorem eqS_yes (hp : xs.take k = ys.take k) (hl : xs.length = ys.length) (hk : xs.length ≤ k) : Value.bool true = .bool (decide (xs = ys)) := by
  rw [List.take_of_length_le hk, List.take_of_length_le (by omega)] at hp
  simp [hp]
end
/-! ### lists compared -/
def cmpL : List Int → List Int → Int
  | [], [] => 0
  | [], _ :: _ => -1
  | _ :: _, [] => 1
  | x :: xs, y :: ys => if ordI x y = 0 then cmpL xs ys else ordI x y
section
variable {xs ys : List Int} {k : Nat}
theorem cmpL_cons (hI : cmpL (xs.drop k) (ys.drop k) = cmpL xs ys) (h1 : k < xs.length) (h2 : k < ys.length) : cmpL xs ys = if ordI xs[k] ys[k] = 0 then cmpL (xs.drop (k + 1)) (ys.drop (k + 1)) else ordI xs[k] ys[k] := by
  rw [← hI, List.drop_eq_getElem_cons h1, List.drop_eq_getElem_cons h2, cmpL]
theorem cmpL_step (hI : cmpL (xs.drop k) (ys.drop k) = cmpL xs ys) (h1 : k < xs.length) (h2 : k < ys.length) (h : ordI xs[k] ys[k] = 0) : cmpL (xs.drop (k + 1)) (ys.drop (k + 1)) = cmpL xs ys := by
  rw [cmpL_cons hI h1 h2, if_pos h]
theorem cmpL_1 (hI : cmpL (xs.drop k) (ys.drop k) = cmpL xs ys) (h1 : k < xs.length) (h2 : ys.length ≤ k) : Value.int .i64 1 = .int .i64 (cmpL xs ys) := by
  rw [← hI, List.drop_eq_getElem_cons h1, List.drop_of_length_le h2, cmpL]
theorem cmpL_2 (hI : cmpL (xs.drop k) (ys.drop k) = cmpL xs ys) (h1 : k < xs.length) (h2 : k < ys.length) (h : ¬ ordI xs[k] ys[k] = 0) : Value.int .i64 (ordI xs[k] ys[k]) = .int .i64 (cmpL xs ys) := by
  rw [cmpL_cons hI h1 h2, if_neg h]
theorem cmpL_3 (hI : cmpL (xs.drop k) (ys.drop k) = cmpL xs ys) (h1 : xs.length ≤ k) (h2 : k < ys.length) : Value.int .i64 (-1) = .int .i64 (cmpL xs ys) := by
  rw [← hI, List.drop_eq_getElem_cons h2, List.drop_of_length_le h1, cmpL]
theorem cmpL_4 (hI : cmpL (xs.drop k) (ys.drop k) = cmpL xs ys) (h1 : xs.length ≤ k) (h2 : ys.length ≤ k) : Value.int .i64 0 = .int .i64 (cmpL xs ys) := by
  rw [← hI, List.drop_of_length_le h2, List.drop_of_length_le h1, cmpL]
end
def firstNZ : List Int → Int
  | [] => 0
  | x :: xs => if x = 0 then firstNZ xs else x
section
variable {xs : List Int} {k : Nat}
theorem firstNZ_step (hI : firstNZ (xs.drop k) = firstNZ xs) (h1 : k < xs.length) (h : xs[k] = 0) : firstNZ (xs.drop (k + 1)) = firstNZ xs := by
  rw [← hI, List.drop_eq_getElem_cons h1, firstNZ, if_pos h]
theorem firstNZ_yes (hI : firstNZ (xs.drop k) = firstNZ xs) (h1 : k < xs.length) (h : ¬ xs[k] = 0) : xs[k] = firstNZ xs := by
  rw [← hI, List.drop_eq_getElem_cons h1, firstNZ, if_neg h]
theorem firstNZ_no (hI : firstNZ (xs.drop k) = firstNZ xs) (h1 : xs.length ≤ k) : firstNZ xs = 0 := by
  rw [← hI, List.drop_of_length_le h1, firstNZ]
end
/-! ### cells -/
def cellOrd (x y : Cell) : Int := cmpL [x.epoch, x.op, x.key, x.val] [y.epoch, y.op, y.key, y.val]
theorem cellOrd_nz (x y : Cell) : cellOrd x y = firstNZ [ordI x.epoch y.epoch, ordI x.op y.op, ordI x.key y.key, ordI x.val y.val] := by simp [cellOrd, cmpL, firstNZ]
theorem cellOrd_a {x y : Cell} {n : Int} (h : n = firstNZ [ordI x.epoch y.epoch, ordI x.op y.op, ordI x.key y.key, ordI x.val y.val]) : Value.int .i64 n = .int .i64 (cellOrd x y) := by rw [cellOrd_nz, h]
theorem cellOrd_b {x y : Cell} (h : firstNZ [ordI x.epoch y.epoch, ordI x.op y.op, ordI x.key y.key, ordI x.val y.val] = 0) : Value.int .i64 0 = .int .i64 (cellOrd x y) := by rw [cellOrd_nz, h]
/-! ### membership -/
section
variable {α : Type} {xs : List α} {x : α} {k : Nat}
theorem has_step (hI : x ∉ xs.take k) (h1 : k < xs.length) (h : ¬ xs[k] = x) : x ∉ xs.take (k + 1) := by
  rw [List.take_succ_eq_append_getElem h1]
  simp only [List.mem_append, List.mem_singleton, not_or]
  exact ⟨hI, fun e => h e.symm⟩
variable [DecidableEq α]
theorem has_yes (h1 : k < xs.length) (h : xs[k] = x) : Value.bool true = .bool (decide (x ∈ xs)) := by
  have : x ∈ xs := h ▸ List.getElem_mem h1
  simp [this]
theorem has_no (hI : x ∉ xs.take k) (h1 : xs.length ≤ k) : Value.bool false = .bool (decide (x ∈ xs)) := by
  rw [List.take_of_length_le h1] at hI
  simp [hI]
/-- The place of the first, or -1. -/
def idxI (xs : List α) (x : α) : Int := if x ∈ xs then (xs.idxOf x : Int) else -1
theorem idx_yes (hI : x ∉ xs.take k) (h1 : k < xs.length) (h : xs[k] = x) : Value.int .i64 ((k : Nat) : Int) = .int .i64 (idxI xs x) := by
  have hm : x ∈ xs := h ▸ List.getElem_mem h1
  have : xs.idxOf x = k := by
    rw [← List.take_append_drop k xs, List.idxOf_append, if_neg hI, List.drop_eq_getElem_cons h1, h]
    simp; omega
  simp [idxI, hm, this]
theorem idx_no (hI : x ∉ xs.take k) (h1 : xs.length ≤ k) : Value.int .i64 (-1) = .int .i64 (idxI xs x) := by
  rw [List.take_of_length_le h1] at hI
  simp [idxI, hI]
theorem has_idx : Value.bool (decide (0 ≤ idxI xs x)) = .bool (decide (x ∈ xs)) := by
  unfold idxI
  by_cases h : x ∈ xs <;> simp [h]
end
/-- Of one operator, epoch and key. -/
def slot (x y : Cell) : Bool := x.op == y.op && x.epoch == y.epoch && x.key == y.key
def leastGo (op epoch key : Int) : List Cell → Int → Bool → Int × Bool
  | [], n, s => (n, s)
  | x :: xs, n, s => if slot x ⟨op, epoch, key, 0⟩ && (!s || decide (x.val < n)) then leastGo op epoch key xs x.val true else leastGo op epoch key xs n s
def leastM (xs : List Cell) (op epoch key : Int) : Int × Bool := leastGo op epoch key xs 0 false
section
variable {xs : List Cell} {op epoch key n : Int} {s : Bool} {k : Nat} {r : Int × Bool}
theorem leastGo_yes (hI : leastGo op epoch key (xs.drop k) n s = r) (h1 : k < xs.length) (h : (slot xs[k] ⟨op, epoch, key, 0⟩ && (!s || decide (xs[k].val < n))) = true) : leastGo op epoch key (xs.drop (k + 1)) xs[k].val true = r := by
  rw [← hI, List.drop_eq_getElem_cons h1, leastGo, if_pos h]
theorem leastGo_no (hI : leastGo op epoch key (xs.drop k) n s = r) (h1 : k < xs.length) (h : (slot xs[k] ⟨op, epoch, key, 0⟩ && (!s || decide (xs[k].val < n))) = false) : leastGo op epoch key (xs.drop (k + 1)) n s = r := by
  rw [← hI, List.drop_eq_getElem_cons h1, leastGo, if_neg (by simp [h])]
end
/-! ### all, and those that -/
section
variable {α : Type} {xs : List α} {p : α → Bool} {k : Nat}
theorem all_step (hI : (xs.take k).all p = true) (h1 : k < xs.length) (h : p xs[k] = true) : (xs.take (k + 1)).all p = true := by
  rw [List.take_succ_eq_append_getElem h1, List.all_append, hI]
  simp [h]
theorem all_no (h1 : k < xs.length) (h : p xs[k] = false) : Value.bool false = .bool (xs.all p) := by
  congr 1; symm; rw [List.all_eq_false]
  exact ⟨_, List.getElem_mem h1, by simp [h]⟩
theorem all_yes (hI : (xs.take k).all p = true) (h1 : xs.length ≤ k) : Value.bool true = .bool (xs.all p) := by
  rw [List.take_of_length_le h1] at hI; rw [hI]
theorem filt_yes [Enc α] (h1 : k < xs.length) (h : p xs[k] = true) : ((xs.take k).filter p).flatMap Enc.enc ++ Enc.enc xs[k] = ((xs.take (k + 1)).filter p).flatMap Enc.enc := by
  rw [List.take_succ_eq_append_getElem h1, List.filter_append, List.flatMap_append]; simp [h]
theorem filt_no [Enc α] (h1 : k < xs.length) (h : p xs[k] = false) : ((xs.take k).filter p).flatMap Enc.enc = ((xs.take (k + 1)).filter p).flatMap Enc.enc := by
  rw [List.take_succ_eq_append_getElem h1, List.filter_append, List.flatMap_append]; simp [h]
theorem filt_len [Enc α] (xs : List α) (p : α → Bool) (k : Nat) : (((xs.take k).filter p).flatMap Enc.enc).length ≤ xs.length * Enc.sz α := by
  rw [sum_flat]
  refine Nat.mul_le_mul_right _ (Nat.le_trans (List.length_filter_le _ _) ?_)
  simp; omega
theorem filt_all [Enc α] (h1 : xs.length ≤ k) : ((xs.take k).filter p).flatMap Enc.enc = (xs.filter p).flatMap Enc.enc := by rw [List.take_of_length_le h1]
/-- Neighbours. -/
def adj : List α → List (α × α)
  | x :: y :: l => (x, y) :: adj (y :: l)
  | _ => []
theorem adj_len : ∀ (xs : List α), (adj xs).length = xs.length - 1
  | [] => rfl
  | [_] => rfl
  | x :: y :: l => by have := adj_len (y :: l); simp only [adj, List.length_cons] at *; omega
theorem adj_get : ∀ (xs : List α) (j : Nat) (h : j + 1 < xs.length) (h' : j < (adj xs).length), (adj xs)[j] = (xs[j], xs[j + 1])
  | x :: y :: l, 0, _, _ => rfl
  | x :: y :: l, j + 1, h, h' => by
    have := adj_get (y :: l) j (by simpa using h) (by simpa [adj] using h')
    simpa [adj] using this
variable {q : α × α → Bool} {j : Nat}
theorem adj_step (hI : ((adj xs).take j).all q = true) (h1 : j + 1 < xs.length) (h : q (xs[j], xs[j + 1]) = true) : ((adj xs).take (j + 1)).all q = true := by
  have h2 : j < (adj xs).length := by rw [adj_len]; omega
  exact all_step hI h2 (by rw [adj_get xs j h1 h2]; exact h)
theorem adj_no (h1 : j + 1 < xs.length) (h : q (xs[j], xs[j + 1]) = false) : Value.bool false = .bool ((adj xs).all q) := by
  have h2 : j < (adj xs).length := by rw [adj_len]; omega
  exact all_no h2 (by rw [adj_get xs j h1 h2]; exact h)
theorem adj_yes (hI : ((adj xs).take j).all q = true) (h1 : xs.length ≤ j + 1) : Value.bool true = .bool ((adj xs).all q) := all_yes hI (by rw [adj_len]; omega)
end
def nwP (a : List Cell) (x : Cell) : Bool := !(!(leastM a x.op x.epoch x.key).2 || decide (x.val < (leastM a x.op x.epoch x.key).1))
def isOf (op epoch : Int) (x : Cell) : Bool := x.op == op && x.epoch == epoch
def cellLt (q : Cell × Cell) : Bool := !decide (0 ≤ cellOrd q.1 q.2)
/-- From 'lo' to 'hi'. -/
def win (n lo hi : Int) : Bool := decide (lo ≤ n) && decide (n ≤ hi)
/-! ### the place of a link -/
def linkM (g : Graph) (a b : Int) : Int := if a < 0 ∨ b < 0 ∨ g.workers ≤ a ∨ g.workers ≤ b then -1 else IntKind.i64.wrap (IntKind.i64.wrap (a * g.workers) + b)
theorem link_i {g : Graph} {a b : Int} (h : a < 0 ∨ b < 0 ∨ g.workers ≤ a ∨ g.workers ≤ b) : Value.int .i64 (-1) = .int .i64 (linkM g a b) := by rw [linkM, if_pos h]
theorem link_o {g : Graph} {a b : Int} (h : ¬ (a < 0 ∨ b < 0 ∨ g.workers ≤ a ∨ g.workers ≤ b)) : Value.int .i64 (IntKind.i64.wrap (IntKind.i64.wrap (a * g.workers) + b)) = .int .i64 (linkM g a b) := by rw [linkM, if_neg h]
theorem link_a {g : Graph} {a b : Int} (h : ((decide ((if b < a then b else a) < 0)) || (decide (g.workers ≤ (if b > a then b else a)))) = true) : Value.int .i64 (-1) = .int .i64 (linkM g a b) := link_i (by
  simp only [Bool.or_eq_true, decide_eq_true_eq] at h
  split at h <;> split at h <;> omega)
theorem link_b {g : Graph} {a b : Int} (h : ((decide ((if b < a then b else a) < 0)) || (decide (g.workers ≤ (if b > a then b else a)))) = false) : Value.int .i64 (IntKind.i64.wrap (IntKind.i64.wrap (a * g.workers) + b)) = .int .i64 (linkM g a b) := link_o (by
  simp only [Bool.or_eq_false_iff, decide_eq_false_iff_not] at h
  split at h <;> split at h <;> omega)
theorem wrap_pred {w : Int} (hw : rg w) : (IntKind.i64.wrap (w - 1) = w - 1 ∧ -9223372036854775808 < w) ∨ w = -9223372036854775808 := by
  unfold rg at hw
  by_cases h : w = -9223372036854775808
  · exact .inr h
  · exact .inl ⟨wrap_in (by omega) (by omega), by omega⟩
theorem link_c {g : Graph} {a b : Int} (hw : rg g.workers) (h : (((!(decide (0 ≤ a) && decide (a ≤ IntKind.i64.wrap (g.workers - 1)))) || (!(decide (0 ≤ b) && decide (b ≤ IntKind.i64.wrap (g.workers - 1))))) || (decide (g.workers < 1))) = true) :
    Value.int .i64 (-1) = .int .i64 (linkM g a b) := link_i (by
  rcases wrap_pred hw with ⟨e, _⟩ | e
  · rw [e] at h; simp at h; omega
  · omega)
theorem link_d {g : Graph} {a b : Int} (hw : rg g.workers) (h : (((!(decide (0 ≤ a) && decide (a ≤ IntKind.i64.wrap (g.workers - 1)))) || (!(decide (0 ≤ b) && decide (b ≤ IntKind.i64.wrap (g.workers - 1))))) || (decide (g.workers < 1))) = false) :
    Value.int .i64 (IntKind.i64.wrap (IntKind.i64.wrap (a * g.workers) + b)) = .int .i64 (linkM g a b) := link_o (by
  rcases wrap_pred hw with ⟨e, _⟩ | e
  · rw [e] at h; simp at h; omega
  · simp [e] at h)
/-! ### graphs that are the same -/
section
variable {x y : Graph} {k : Nat}
theorem sg_no (h : (((x.workers != y.workers) || (x.cap != y.cap)) || (((x.nodes.length : Nat) : Int) != ((y.nodes.length : Nat) : Int))) = true) : Value.bool false = .bool (decide (x = y)) := by
  have : x ≠ y := by rintro rfl; simp at h
  simp [this]
theorem sg_len (h : (((x.workers != y.workers) || (x.cap != y.cap)) || (((x.nodes.length : Nat) : Int) != ((y.nodes.length : Nat) : Int))) = false) : x.nodes.length = y.nodes.length := by
  simp at h; omega
theorem sg_yes (h : (((x.workers != y.workers) || (x.cap != y.cap)) || (((x.nodes.length : Nat) : Int) != ((y.nodes.length : Nat) : Int))) = false) (hn : x.nodes = y.nodes) : Value.bool true = .bool (decide (x = y)) := by
  cases x; cases y; simp_all
theorem sg_node {a b : Node} (h : ((((a.kind != b.kind) || (a.a != b.a)) || (a.b != b.b)) || (!(decide (a.outs = b.outs)))) = false) : a = b := by
  cases a; cases b; simp_all
theorem sg_no1 {h1 : k < x.nodes.length} {h2 : k < y.nodes.length} (h : ((((x.nodes[k].kind != y.nodes[k].kind) || (x.nodes[k].a != y.nodes[k].a)) || (x.nodes[k].b != y.nodes[k].b)) || (!(decide (x.nodes[k].outs = y.nodes[k].outs)))) = true) :
    Value.bool false = .bool (decide (x = y)) := by
  have : x ≠ y := by rintro rfl; simp at h
  simp [this]
end
theorem kx {p q : Bool} (h : (!p || !q) = true) : (p && q) = false := by cases p <;> cases q <;> simp_all
theorem ky {p q : Bool} (h : (!p || !q) = false) : (p && q) = true := by cases p <;> cases q <;> simp_all
theorem kx0 {w p q : Bool} (h : (!p || !q) = true) : ((w && p) && q) = false := by cases w <;> cases p <;> cases q <;> simp_all
theorem ky0 {w p q : Bool} (h : (!p || !q) = false) (hw : w = true) : ((w && p) && q) = true := by cases w <;> cases p <;> cases q <;> simp_all
/-! ### nodes that are valid -/
def kindOk (x : Node) : Bool :=
  if x.kind = 2 then win x.a 0 999 && x.b == 0 else if x.kind = 3 then win x.a 1 10 && win x.b 0 (IntKind.i64.wrap (x.a - 1)) else if x.kind = 4 then win x.a 0 99 && x.b == 0
  else win x.kind 1 8 && (x.a == 0) && (x.b == 0)
def nodeT (x : Node) : Bool := ((decide (2 < ((x.outs.length : Nat) : Int))) || ((x.kind == 8) && (decide (0 < ((x.outs.length : Nat) : Int))))) || ((((x.outs.length : Nat) : Int) == 2) && ((List.getD x.outs 0 default) == (List.getD x.outs 1 default)))
def nodeOk (x : Node) : Bool := kindOk x && !nodeT x && x.outs.all (win · 0 7)
section
variable {x : Node} {k : Nat}
theorem node_k (h : kindOk x = false) : Value.bool false = .bool (nodeOk x) := by simp [nodeOk, h]
theorem node_t (h : nodeT x = true) : Value.bool false = .bool (nodeOk x) := by simp [nodeOk, h]
theorem node_l {h1 : k < x.outs.length} (h : (!(win x.outs[k] 0 7)) = true) : Value.bool false = .bool (nodeOk x) := by
  have : x.outs.all (win · 0 7) = false := by
    rw [List.all_eq_false]; exact ⟨_, List.getElem_mem h1, by simpa using h⟩
  simp [nodeOk, this]
theorem node_y (hk : kindOk x = true) (ht : nodeT x = false) (hI : (x.outs.take k).all (win · 0 7) = true) (h1 : x.outs.length ≤ k) : Value.bool true = .bool (nodeOk x) := by
  rw [List.take_of_length_le h1] at hI
  simp [nodeOk, hk, ht, hI]
theorem node_2 (h : (x.kind == 2) = true) : kindOk x = (win x.a 0 999 && x.b == 0) := by simp at h; simp [kindOk, h]
theorem node_3 (h : (x.kind == 3) = true) : kindOk x = (win x.a 1 10 && win x.b 0 (IntKind.i64.wrap (x.a - 1))) := by simp at h; simp [kindOk, h]
theorem node_4 (h : (x.kind == 4) = true) : kindOk x = (win x.a 0 99 && x.b == 0) := by simp at h; simp [kindOk, h]
theorem node_0 (h2 : (x.kind == 2) = false) (h3 : (x.kind == 3) = false) (h4 : (x.kind == 4) = false) : kindOk x = (win x.kind 1 8 && (x.a == 0) && (x.b == 0)) := by simp at h2 h3 h4; simp [kindOk, h2, h3, h4]
theorem win_kind {n : Int} (h : n = 1 ∨ n = 2 ∨ n = 3 ∨ n = 4 ∨ n = 5 ∨ n = 6 ∨ n = 7 ∨ n = 8) : win n 1 8 = true := by
  rcases h with h | h | h | h | h | h | h | h <;> subst h <;> decide
theorem win_not {n : Int} (h : ¬ (n = 1 ∨ n = 2 ∨ n = 3 ∨ n = 4 ∨ n = 5 ∨ n = 6 ∨ n = 7 ∨ n = 8)) : win n 1 8 = false := by
  simp only [win, Bool.and_eq_false_iff, decide_eq_false_iff_not]; omega
/-- The reference's first question: 'p', 'q': what it made of 'a' and 'b'. -/
def nodeS (x : Node) (p q : Bool) : Bool := (((!(win x.kind 1 8) || !p) || !q) || (decide (2 < ((x.outs.length : Nat) : Int)))) || ((x.kind == 8) && (decide (0 < ((x.outs.length : Nat) : Int))))
theorem node_s {p q : Bool} (hk : kindOk x = (win x.kind 1 8 && p && q)) (h : nodeS x p q = true) : Value.bool false = .bool (nodeOk x) := by
  simp only [nodeS] at h
  cases hkk : kindOk x with
  | false => exact node_k hkk
  | true =>
    rw [hkk] at hk
    have hk := hk.symm
    simp only [Bool.and_eq_true] at hk
    obtain ⟨⟨h1, h2⟩, h3⟩ := hk
    simp only [h1, h2, h3, Bool.not_true, Bool.false_or] at h
    exact node_t (by simp only [nodeT, h, Bool.true_or])
theorem node_p {p q : Bool} (h : nodeS x p q = false) (hk : kindOk x = (win x.kind 1 8 && p && q)) : kindOk x = true ∧ ((decide (2 < ((x.outs.length : Nat) : Int))) || ((x.kind == 8) && (decide (0 < ((x.outs.length : Nat) : Int))))) = false := by
  simp only [nodeS, Bool.or_eq_false_iff] at h
  obtain ⟨⟨⟨⟨h1, h2⟩, h3⟩, h4⟩, h5⟩ := h
  simp only [Bool.not_eq_false'] at h1 h2 h3
  simp only [hk, h1, h2, h3, h4, h5]; simp
/-- The reference asks for two alike places as it goes. -/
theorem node_d {h1 : k < x.outs.length} (h : ((!(win x.outs[k] 0 7)) || ((decide (0 < ((k : Nat) : Int))) && ((List.getD x.outs 0 default) == (List.getD x.outs 1 default)))) = true) (ht : ((decide (2 < ((x.outs.length : Nat) : Int))) || ((x.kind == 8) && (decide (0 < ((x.outs.length : Nat) : Int))))) = false) : Value.bool false = .bool (nodeOk x) := by
  rcases Bool.or_eq_true _ _ ▸ h with h | h
  · exact node_l h
  · simp only [Bool.and_eq_true, decide_eq_true_eq] at h
    have ht2 := (Bool.or_eq_false_iff.1 ht).1
    simp only [decide_eq_false_iff_not] at ht2
    refine node_t ?_
    have : ((x.outs.length : Nat) : Int) = 2 := by omega
    simp only [nodeT, this, h.2]; simp
theorem nodeL {h1 : k < x.outs.length} (h : ((!(win x.outs[k] 0 7)) || ((decide (0 < ((k : Nat) : Int))) && ((List.getD x.outs 0 default) == (List.getD x.outs 1 default)))) = false) : win x.outs[k] 0 7 = true := by
  have := (Bool.or_eq_false_iff.1 h).1
  simpa using this
theorem nodeJ {h1 : k < x.outs.length} (h : ((!(win x.outs[k] 0 7)) || ((decide (0 < ((k : Nat) : Int))) && ((List.getD x.outs 0 default) == (List.getD x.outs 1 default)))) = false) : 1 < k + 1 → ((List.getD x.outs 0 default) == (List.getD x.outs 1 default)) = false := fun hk => by
  have := (Bool.or_eq_false_iff.1 h).2
  have hd : decide (0 < ((k : Nat) : Int)) = true := decide_eq_true (by omega)
  rwa [hd, Bool.true_and] at this
theorem node_z {p q : Bool} (hS : nodeS x p q = false) (hk : kindOk x = (win x.kind 1 8 && p && q)) (hI : (x.outs.take k).all (win · 0 7) = true) (hJ : 1 < k → ((List.getD x.outs 0 default) == (List.getD x.outs 1 default)) = false) (h1 : x.outs.length ≤ k) : Value.bool true = .bool (nodeOk x) := by
  obtain ⟨hk, ht⟩ := node_p hS hk
  refine node_y hk ?_ hI h1
  simp only [nodeT, ht, Bool.false_or, Bool.and_eq_false_iff]
  by_cases h2 : ((x.outs.length : Nat) : Int) = 2
  · exact .inr (hJ (by omega))
  · exact .inl (by simpa using h2)
end
/-! ### graphs that are valid -/
def kindAt (g : Graph) (to : Int) : Int := (List.getD g.nodes to.toNat default).kind
def edgeBad (g : Graph) (i : Nat) (x : Node) (to : Int) : Bool :=
  decide (((g.nodes.length : Nat) : Int) ≤ to) || (((x.kind == 7) && ((decide (((i : Nat) : Int) < to)) || ((kindAt g to != 5) && (kindAt g to != 6)))) || ((x.kind != 7) && (decide (to ≤ ((i : Nat) : Int)))))
def atOk (_ : Graph) (i : Nat) (x : Node) : Bool := !((!(nodeOk x)) || (!((x.kind == 1) == (((i : Nat) : Int) == 0))))
def nodeAtOk (g : Graph) (i : Nat) (x : Node) : Bool := atOk g i x && x.outs.all (fun to => !edgeBad g i x to)
def headBad (g : Graph) : Bool := ((!(win ((g.nodes.length : Nat) : Int) 1 8)) || (!(win g.workers 1 4))) || (!(win g.cap 1 4))
def graphOk (g : Graph) : Bool := !headBad g && (List.range g.nodes.length).all (fun i => nodeAtOk g i (List.getD g.nodes i default))
section
variable {g : Graph} {i k : Nat}
theorem getD_at {α : Type} [Inhabited α] {xs : List α} {i : Nat} (h : i < xs.length) : List.getD xs i default = xs[i] := by simp [List.getD, h]
theorem graph_h (h : headBad g = true) : Value.bool false = .bool (graphOk g) := by simp [graphOk, h]
theorem graph_n {h1 : i < g.nodes.length} (h : nodeAtOk g i g.nodes[i] = false) : Value.bool false = .bool (graphOk g) := by
  have : (List.range g.nodes.length).all (fun i => nodeAtOk g i (List.getD g.nodes i default)) = false := by
    rw [List.all_eq_false]; exact ⟨i, by simpa using h1, by rw [getD_at h1, h]; simp⟩
  simp only [graphOk, this, Bool.and_false]
theorem graph_a {h1 : i < g.nodes.length} (h : ((!(nodeOk g.nodes[i])) || (!((g.nodes[i].kind == 1) == (((i : Nat) : Int) == 0)))) = true) : Value.bool false = .bool (graphOk g) := graph_n (h1 := h1) (by
  simp only [nodeAtOk, atOk, h]; simp)
theorem graph_e {h1 : i < g.nodes.length} {h2 : k < g.nodes[i].outs.length} (h : edgeBad g i g.nodes[i] (g.nodes[i].outs[k]) = true) : Value.bool false = .bool (graphOk g) := graph_n (h1 := h1) (by
  have : g.nodes[i].outs.all (fun to => !edgeBad g i g.nodes[i] to) = false := by
    rw [List.all_eq_false]; exact ⟨_, List.getElem_mem h2, by simp [h]⟩
  simp only [nodeAtOk, this, Bool.and_false])
theorem graph_s {h1 : i < g.nodes.length} (ha : ((!(nodeOk g.nodes[i])) || (!((g.nodes[i].kind == 1) == (((i : Nat) : Int) == 0)))) = false) (hI : (g.nodes[i].outs.take k).all (fun to => !edgeBad g i g.nodes[i] to) = true) (hk : g.nodes[i].outs.length ≤ k)
    (hp : ∀ j, j < i → nodeAtOk g j (List.getD g.nodes j default) = true) : ∀ j, j < i + 1 → nodeAtOk g j (List.getD g.nodes j default) = true := fun j hj => by
  by_cases e : j = i
  · subst e
    rw [List.take_of_length_le hk] at hI
    rw [getD_at h1]; simp only [nodeAtOk, atOk, ha, hI]; simp
  · exact hp j (by omega)
theorem graph_y (hh : headBad g = false) (hp : ∀ j, j < i → nodeAtOk g j (List.getD g.nodes j default) = true) (hi : g.nodes.length ≤ i) : Value.bool true = .bool (graphOk g) := by
  have : (List.range g.nodes.length).all (fun i => nodeAtOk g i (List.getD g.nodes i default)) = true := by
    rw [List.all_eq_true]; intro j hj; exact hp j (by have := List.mem_range.1 hj; omega)
  simp only [graphOk, this, hh]; simp
theorem edge_a {x : Node} {to : Int} (h : decide (((g.nodes.length : Nat) : Int) ≤ to) = true) : edgeBad g i x to = true := by simp only [edgeBad, h, Bool.true_or]
theorem edge_b {x : Node} {to K : Int} (hK : K = kindAt g to) (h : (((x.kind == 7) && ((decide (((i : Nat) : Int) < to)) || ((K != 5) && (K != 6)))) || ((x.kind != 7) && (decide (to ≤ ((i : Nat) : Int))))) = true) : edgeBad g i x to = true := by
  subst hK; simp only [edgeBad, h, Bool.or_true]
theorem edge_n {x : Node} {to K : Int} (hK : K = kindAt g to) (h1 : decide (((g.nodes.length : Nat) : Int) ≤ to) = false) (h : (((x.kind == 7) && ((decide (((i : Nat) : Int) < to)) || ((K != 5) && (K != 6)))) || ((x.kind != 7) && (decide (to ≤ ((i : Nat) : Int))))) = false) : (!edgeBad g i x to) = true := by
  subst hK; simp only [edgeBad, h, h1, Bool.or_false, Bool.not_false]
theorem edge_s1 {x : Node} {to : Int} (h : ((decide (((g.nodes.length : Nat) : Int) ≤ to)) || ((x.kind != 7) && (decide (to ≤ ((i : Nat) : Int))))) = true) : edgeBad g i x to = true := by
  rcases Bool.or_eq_true _ _ ▸ h with h | h
  · exact edge_a h
  · simp only [edgeBad, h, Bool.or_true]
theorem edge_s2 {x : Node} {to K : Int} (hK : K = kindAt g to) (h : ((x.kind == 7) && ((decide (((i : Nat) : Int) < to)) || ((K != 5) && (K != 6)))) = true) : edgeBad g i x to = true := edge_b hK (by rw [h]; rfl)
theorem edge_sn {x : Node} {to K : Int} (hK : K = kindAt g to) (h1 : ((decide (((g.nodes.length : Nat) : Int) ≤ to)) || ((x.kind != 7) && (decide (to ≤ ((i : Nat) : Int))))) = false) (h : ((x.kind == 7) && ((decide (((i : Nat) : Int) < to)) || ((K != 5) && (K != 6)))) = false) : (!edgeBad g i x to) = true :=
  edge_n hK (Bool.or_eq_false_iff.1 h1).1 (by rw [h, (Bool.or_eq_false_iff.1 h1).2]; rfl)
theorem edge_lt {n to : Int} {q : Bool} (h : ((decide (n ≤ to)) || q) = false) : to < n := by
  have := of_decide_eq_false (Bool.or_eq_false_iff.1 h).1
  omega
theorem graph_to {h1 : i < g.nodes.length} {h2 : k < g.nodes[i].outs.length} (ha : ((!(nodeOk g.nodes[i])) || (!((g.nodes[i].kind == 1) == (((i : Nat) : Int) == 0)))) = false) : 0 ≤ g.nodes[i].outs[k] := by
  have hn : nodeOk g.nodes[i] = true := by simpa using (Bool.or_eq_false_iff.1 ha).1
  simp only [nodeOk, Bool.and_eq_true, List.all_eq_true] at hn
  have := hn.2 _ (List.getElem_mem h2)
  simp only [win, Bool.and_eq_true, decide_eq_true_eq] at this
  exact this.1
end
/-! ### workers -/
def ofE (e : Int) (r : Record) : Bool := r.stamp.epoch == e
def workAt (x : Worker) (e : Int) : Int := IntKind.i64.wrap (((x.queue.filter (ofE e)).length : Int) + ((x.staged.filter (ofE e)).length : Int))
def openAt (x : Worker) (e : Int) : Bool := x.inputs.any fun r => decide (r.stamp.epoch ≤ e)
def idle (x : Worker) : Bool := (x.queue.length == 0) && (x.staged.length == 0) && (x.inputs.length == 0)
def isDone (x : Worker) (e : Int) : Bool := x.dones.any fun d => d.epoch == e
def mkInt (k : Nat) : Int := ((k : Nat) : Int)
def mkBool (k : Nat) : Bool := Int.tmod ((k : Nat) : Int) 3 == 0
def mkRecord (k : Nat) : Record := ⟨((k : Nat) : Int), ⟨((k + 1 : Nat) : Int), ((k + 1 + 1 : Nat) : Int)⟩, ((k + 1 + 1 + 1 : Nat) : Int), ((k + 1 + 1 + 1 + 1 : Nat) : Int)⟩
def mkDone (k : Nat) : Done := ⟨((k : Nat) : Int), Int.tmod ((k + 1 : Nat) : Int) 3 == 0⟩
def mkToken (k : Nat) : Token := ⟨Int.tmod ((k : Nat) : Int) 3 == 0, ((k + 1 : Nat) : Int), ((k + 1 + 1 : Nat) : Int), Int.tmod ((k + 1 + 1 + 1 : Nat) : Int) 3 == 0, Int.tmod ((k + 1 + 1 + 1 + 1 : Nat) : Int) 3 == 0⟩
def mkNews (k : Nat) : News := ⟨((k : Nat) : Int), ((k + 1 : Nat) : Int), Int.tmod ((k + 1 + 1 : Nat) : Int) 3 == 0⟩
def numW (k : Nat) (x : Worker) : Nat := k + 5 * x.queue.length + 5 * x.staged.length + 5 * x.inputs.length + 4 * x.cells.length + 1 * x.sums.length + 1 * x.black.length + 1 * x.caps.length + 2 * x.dones.length
def markW (k : Nat) (x : Worker) : Worker :=
  ⟨mkL 5 mkRecord k x.queue.length, mkL 5 mkRecord (k + 5 * x.queue.length) x.staged.length, mkL 5 mkRecord (k + 5 * x.queue.length + 5 * x.staged.length) x.inputs.length,
    mkL 4 mkCell (k + 5 * x.queue.length + 5 * x.staged.length + 5 * x.inputs.length) x.cells.length, mkL 1 mkInt (k + 5 * x.queue.length + 5 * x.staged.length + 5 * x.inputs.length + 4 * x.cells.length) x.sums.length,
    mkL 1 mkBool (k + 5 * x.queue.length + 5 * x.staged.length + 5 * x.inputs.length + 4 * x.cells.length + 1 * x.sums.length) x.black.length,
    mkL 1 mkBool (k + 5 * x.queue.length + 5 * x.staged.length + 5 * x.inputs.length + 4 * x.cells.length + 1 * x.sums.length + 1 * x.black.length) x.caps.length,
    mkL 2 mkDone (k + 5 * x.queue.length + 5 * x.staged.length + 5 * x.inputs.length + 4 * x.cells.length + 1 * x.sums.length + 1 * x.black.length + 1 * x.caps.length) x.dones.length⟩
theorem numW_mark (j k : Nat) (x : Worker) : numW j (markW k x) = numW j x := by simp [numW, markW, mkL_length]
theorem markW_idem (k : Nat) (x : Worker) : markW k x = markW k (markW k x) := by simp [markW, mkL_length]
theorem cntW_mark (k : Nat) (x : Worker) : cntWorker (markW k x) = cntWorker x := by simp [cntWorker, markW, mkL_length]
theorem any_step {α : Type} {xs : List α} {p : α → Bool} {k : Nat} (hI : (xs.take k).any p = false) (h1 : k < xs.length) (h : p xs[k] = false) : (xs.take (k + 1)).any p = false := by
  rw [List.take_succ_eq_append_getElem h1, List.any_append, hI]; simp [h]
theorem any_yes {α : Type} {xs : List α} {p : α → Bool} {k : Nat} (h1 : k < xs.length) (h : p xs[k] = true) : Value.bool true = .bool (xs.any p) := by
  congr 1; symm; rw [List.any_eq_true]
  exact ⟨_, List.getElem_mem h1, h⟩
theorem any_no {α : Type} {xs : List α} {p : α → Bool} {k : Nat} (hI : (xs.take k).any p = false) (h1 : xs.length ≤ k) : Value.bool false = .bool (xs.any p) := by
  rw [List.take_of_length_le h1] at hI; rw [hI]
/-- The place of the first that 'p' holds of, or -1. -/
def findI {α : Type} (xs : List α) (p : α → Bool) : Int := if xs.any p then ((xs.findIdx p : Nat) : Int) else -1
theorem find_yes {α : Type} {xs : List α} {p : α → Bool} {k : Nat} (hI : (xs.take k).any p = false) (h1 : k < xs.length) (h : p xs[k] = true) : Value.int .i64 ((k : Nat) : Int) = .int .i64 (findI xs p) := by
  have ha : xs.any p = true := by rw [List.any_eq_true]; exact ⟨_, List.getElem_mem h1, h⟩
  have : xs.findIdx p = k := by
    rw [List.findIdx_eq h1]
    refine ⟨h, fun j hj => ?_⟩
    rw [List.any_eq_false] at hI
    have := hI xs[j] (by rw [List.mem_take_iff_getElem]; exact ⟨j, by omega, rfl⟩)
    simpa using this
  simp [findI, ha, this]
theorem find_no {α : Type} {xs : List α} {p : α → Bool} {k : Nat} (hI : (xs.take k).any p = false) (h1 : xs.length ≤ k) : Value.int .i64 (-1) = .int .i64 (findI xs p) := by
  rw [List.take_of_length_le h1] at hI; simp [findI, hI]
theorem any_find {α : Type} {xs : List α} {p : α → Bool} : Value.bool (decide (0 ≤ findI xs p)) = .bool (xs.any p) := by
  unfold findI
  cases h : xs.any p <;> simp
/-! ### records -/
def stampOk (s : Stamp) : Bool := win s.epoch 0 3 && win s.turn 0 6
def recordOk (r : Record) : Bool := (win r.op 0 7 && stampOk r.stamp) && (win r.key 0 99 && win r.val 0 999)
def isNodeM (g : Graph) (op : Int) : Bool := win op 0 (((g.nodes.length : Nat) : Int) - 1)
def opOk (g : Graph) (r : Record) : Bool := recordOk r && isNodeM g r.op
def nextT (s : Stamp) : Stamp × Bool := if (!(stampOk s) || (s.turn == 6)) = true then (s, false) else (⟨s.epoch, s.turn + 1⟩, true)
theorem win_iff {n lo hi : Int} : win n lo hi = true ↔ lo ≤ n ∧ n ≤ hi := by simp [win]
theorem win_hi {s : Stamp} (h : stampOk s = true) : 0 ≤ s.turn ∧ s.turn ≤ 6 := by
  simp only [stampOk, Bool.and_eq_true, win_iff] at h; omega
theorem nt_ge {s : Stamp} (h : (!(stampOk s) || decide (6 ≤ s.turn)) = true) : (!(stampOk s) || (s.turn == 6)) = true := by
  cases hs : stampOk s with
  | false => rfl
  | true =>
    have := win_hi hs
    simp [hs] at h ⊢; omega
theorem nt_lt {s : Stamp} (h : (!(stampOk s) || decide (6 ≤ s.turn)) = false) : (!(stampOk s) || (s.turn == 6)) = false := by
  cases hs : stampOk s with
  | false => simp [hs] at h
  | true => simp [hs] at h ⊢; omega
theorem op_yes {g : Graph} {r : Record} (h : (!(recordOk r) || decide (((g.nodes.length : Nat) : Int) ≤ r.op)) = false) : opOk g r = true := by
  simp only [Bool.or_eq_false_iff, Bool.not_eq_false', decide_eq_false_iff_not] at h
  have h1 := h.1
  simp only [recordOk, Bool.and_eq_true, win_iff] at h1
  simp only [opOk, h.1, isNodeM, Bool.true_and, win_iff]; omega
theorem op_no {g : Graph} {r : Record} (h : (!(recordOk r) || decide (((g.nodes.length : Nat) : Int) ≤ r.op)) = true) : opOk g r = false := by
  cases h1 : recordOk r with
  | false => simp [opOk, h1]
  | true =>
    simp [h1] at h
    simp only [opOk, h1, isNodeM, Bool.true_and, win, Bool.and_eq_false_iff, decide_eq_false_iff_not]; omega
theorem bf {a : Bool} (h : a = true → False) : Value.bool false = .bool a := by cases a <;> simp_all
theorem bt {a : Bool} (h : a = true) : Value.bool true = .bool a := by rw [h]
/-- 'P' at all numbers below. -/
def allR (n : Nat) (P : Nat → Bool) : Bool := (List.range n).all P
theorem allR_s {n : Nat} {P : Nat → Bool} (h : allR n P = true) (hp : P n = true) : allR (n + 1) P = true := by
  simp only [allR, List.range_succ, List.all_append] at *
  simp [h, hp]
theorem allR_get {n j : Nat} {P : Nat → Bool} (h : allR n P = true) (hj : j < n) : P j = true := List.all_eq_true.1 h j (List.mem_range.2 hj)
theorem allR_le {n m : Nat} {P : Nat → Bool} (h : allR n P = true) (hm : m ≤ n) : allR m P = true := List.all_eq_true.2 fun j hj => allR_get h (by have := List.mem_range.1 hj; omega)
theorem all_end {α : Type} {xs : List α} {p : α → Bool} {k : Nat} (hI : (xs.take k).all p = true) (h1 : xs.length ≤ k) : xs.all p = true := by rwa [List.take_of_length_le h1] at hI
/-! ### workers that are valid -/
def inAt (xs : List Record) (j : Nat) : Bool :=
  !((((List.getD xs j default).op != 0) || ((List.getD xs j default).stamp.turn != 0)) || (decide (0 < ((j : Nat) : Int)) && decide ((List.getD xs j default).stamp.epoch < (List.getD xs (j - 1) default).stamp.epoch)))
theorem inAt_at {xs : List Record} {j : Nat} (h : j < xs.length) : inAt xs j = !(((xs[j].op != 0) || (xs[j].stamp.turn != 0)) || (decide (0 < ((j : Nat) : Int)) && decide (xs[j].stamp.epoch < (List.getD xs (j - 1) default).stamp.epoch))) := by
  simp only [inAt, getD_at h]
def doneAtOk (xs : List Done) (j : Nat) : Bool := !(!(win (List.getD xs j default).epoch 0 3) || (xs.take j).any (fun d => d.epoch == (List.getD xs j default).epoch))
theorem doneAtOk_at {xs : List Done} {j : Nat} (h : j < xs.length) : doneAtOk xs j = !(!(win xs[j].epoch 0 3) || (xs.take j).any (fun d => d.epoch == xs[j].epoch)) := by
  simp only [doneAtOk, getD_at h]
def workerOk (g : Graph) (x : Worker) : Bool :=
  x.queue.all (opOk g) && x.staged.all (opOk g) && x.inputs.all (opOk g) && (adj x.cells).all cellLt && allR x.inputs.length (fun j => inAt x.inputs j) &&
    (((x.sums.length : Nat) : Int) == 4) && (((x.black.length : Nat) : Int) == 4) && (((x.caps.length : Nat) : Int) == 4) && x.sums.all (win · (-1000000) 1000000) && allR x.dones.length (fun j => doneAtOk x.dones j)
theorem wk_yes1 {g : Graph} {x : Worker} (h1 : (((!(x.queue.all (opOk g)) || !(x.staged.all (opOk g))) || !(x.inputs.all (opOk g))) || !((adj x.cells).all cellLt)) = false) (h2 : allR x.inputs.length (fun j => inAt x.inputs j) = true)
    (h3 : (((((x.sums.length : Nat) : Int) != 4) || (((x.black.length : Nat) : Int) != 4)) || (((x.caps.length : Nat) : Int) != 4)) = false) (h4 : x.sums.all (win · (-1000000) 1000000) = true) (h5 : allR x.dones.length (fun j => doneAtOk x.dones j) = true) :
    Value.bool true = .bool (workerOk g x) := by
  simp only [Bool.or_eq_false_iff, Bool.not_eq_false', bne_eq_false_iff_eq] at h1 h3
  obtain ⟨⟨⟨a1, a2⟩, a3⟩, a4⟩ := h1
  obtain ⟨⟨b1, b2⟩, b3⟩ := h3
  exact bt (by simp only [workerOk, a1, a2, a3, a4, h2, b1, b2, b3, h4, h5]; rfl)
section
variable {x y : Worker}
theorem sw_len (h : (((((((!(decide (x.queue = y.queue)) || !(decide (x.staged = y.staged))) || !(decide (x.inputs = y.inputs))) || !(decide (x.cells = y.cells))) || !(decide (x.sums = y.sums))) || !(decide (x.black = y.black))) || !(decide (x.caps = y.caps))) || (((x.dones.length : Nat) : Int) != ((y.dones.length : Nat) : Int))) = false) : x.dones.length = y.dones.length := by
  simp at h; omega
theorem sw_yes (h : (((((((!(decide (x.queue = y.queue)) || !(decide (x.staged = y.staged))) || !(decide (x.inputs = y.inputs))) || !(decide (x.cells = y.cells))) || !(decide (x.sums = y.sums))) || !(decide (x.black = y.black))) || !(decide (x.caps = y.caps))) || (((x.dones.length : Nat) : Int) != ((y.dones.length : Nat) : Int))) = false) (hd : x.dones = y.dones) : Value.bool true = .bool (decide (x = y)) := by
  cases x; cases y; simp_all
end
theorem wk_len {g : Graph} {x : Worker} (h : ((((((!(x.queue.all (opOk g)) || !(x.staged.all (opOk g))) || !(x.inputs.all (opOk g))) || !((adj x.cells).all cellLt)) || (((x.sums.length : Nat) : Int) != 4)) || (((x.black.length : Nat) : Int) != 4)) || (((x.caps.length : Nat) : Int) != 4)) = false) : x.sums.length = 4 := by
  simp at h; omega
theorem wk_yes2 {g : Graph} {x : Worker} (h : ((((((!(x.queue.all (opOk g)) || !(x.staged.all (opOk g))) || !(x.inputs.all (opOk g))) || !((adj x.cells).all cellLt)) || (((x.sums.length : Nat) : Int) != 4)) || (((x.black.length : Nat) : Int) != 4)) || (((x.caps.length : Nat) : Int) != 4)) = false) (h2 : allR x.inputs.length (fun j => inAt x.inputs j) = true)
    (h4 : x.sums.all (win · (-1000000) 1000000) = true) (h5 : allR x.dones.length (fun j => doneAtOk x.dones j) = true) : Value.bool true = .bool (workerOk g x) := by
  simp only [Bool.or_eq_false_iff, Bool.not_eq_false', bne_eq_false_iff_eq] at h
  obtain ⟨⟨⟨⟨⟨⟨a1, a2⟩, a3⟩, a4⟩, b1⟩, b2⟩, b3⟩ := h
  exact bt (by simp only [workerOk, a1, a2, a3, a4, h2, b1, b2, b3, h4, h5]; rfl)
section
variable {xs : List Done} {i j : Nat}
theorem done_s {h1 : i < xs.length} (hw : (!(win xs[i].epoch 0 3)) = false) (hJ : (xs.take j).any (fun d => d.epoch == xs[i].epoch) = false) (hj : i ≤ j) : doneAtOk xs i = true := by
  rw [doneAtOk_at h1, hw]
  have : (xs.take i).any (fun d => d.epoch == xs[i].epoch) = false := by
    rw [List.any_eq_false] at *
    intro d hd
    refine hJ d ?_
    rw [List.mem_take_iff_getElem] at *
    obtain ⟨q, hq, rfl⟩ := hd
    exact ⟨q, by omega, rfl⟩
  simp [this]
theorem done_n {h1 : i < xs.length} {h2 : j < xs.length} (h : doneAtOk xs i = true) (hj : j < i) (he : (xs[j].epoch == xs[i].epoch) = true) : False := by
  rw [doneAtOk_at h1] at h
  have : (xs.take i).any (fun d => d.epoch == xs[i].epoch) = true := by
    rw [List.any_eq_true]
    exact ⟨xs[j], by rw [List.mem_take_iff_getElem]; exact ⟨j, by omega, rfl⟩, he⟩
  simp [this] at h
end
/-! ### a node, and what it reaches -/
theorem isNode_of {g : Graph} {op : Int} (h : isNodeM g op = true) : 0 ≤ op ∧ op < ((g.nodes.length : Nat) : Int) ∧ Int.toNat op < g.nodes.length := by
  simp only [isNodeM, win_iff] at h; omega
theorem isN_w {n : Nat} (h : n ≤ maxLen) : IntKind.i64.wrap (((n : Nat) : Int) - 1) = ((n : Nat) : Int) - 1 := by
  unfold maxLen at h
  rw [wrap_in (by omega) (by omega)]
def nodeOf (g : Graph) (op : Int) : Node × Bool := if isNodeM g op = true then (List.getD g.nodes (Int.toNat op) default, true) else (⟨0, 0, 0, []⟩, false)
theorem nodeOf_no {g : Graph} {op : Int} (h : isNodeM g op = false) : nodeOf g op = (⟨0, 0, 0, []⟩, false) := by simp [nodeOf, h]
theorem nodeOf_yes {g : Graph} {op : Int} (h : 0 ≤ op ∧ op < ((g.nodes.length : Nat) : Int) ∧ Int.toNat op < g.nodes.length) : nodeOf g op = (g.nodes[Int.toNat op]'h.2.2, true) := by
  have : isNodeM g op = true := by simp only [isNodeM, win_iff]; omega
  simp [nodeOf, this, List.getD, h.2.2]
theorem nodeOf_two {g : Graph} {op : Int} : (nodeOf g op).2 = isNodeM g op := by
  unfold nodeOf; cases h : isNodeM g op <;> simp
theorem mem_cnt {α : Type} {f : α → Nat} : ∀ {xs : List α} {x : α}, x ∈ xs → f x ≤ (xs.map f).sum
  | y :: ys, x, h => by
    rcases List.mem_cons.1 h with rfl | h
    · simp
    · have := mem_cnt (f := f) h; simp; omega
theorem outs_le {g : Graph} {x : Node} (h : cntGraph g ≤ 1048576) (hx : x ∈ g.nodes) : x.outs.length ≤ 1048576 := by
  have := mem_cnt (f := cntNode) hx
  simp only [cntGraph, cntL] at h
  simp only [cntNode] at this; omega
theorem or3 {a b c : Bool} (h : ((!a || !b) || !c) = false) : a = true ∧ b = true ∧ c = true := by cases a <;> cases b <;> cases c <;> simp_all
theorem or2 {a b : Bool} (h : (!a || !b) = false) : a = true ∧ b = true := by cases a <;> cases b <;> simp_all
def cappedM (g : Graph) (r : Record) : Bool := ((((((nodeOf g r.op).2 && graphOk g) && recordOk r) && ((nodeOf g r.op).1.kind == 7)) && decide (0 < (((nodeOf g r.op).1.outs.length : Nat) : Int))) && !(nextT r.stamp).2)
theorem capped_no {g : Graph} {r : Record} (h : cappedM g r = true) (hc : ((!(graphOk g) || !(recordOk r)) || !(isNodeM g r.op)) = true) : False := by
  simp only [cappedM, Bool.and_eq_true, nodeOf_two] at h
  obtain ⟨⟨⟨⟨⟨h1, h2⟩, h3⟩, _⟩, _⟩, _⟩ := h
  simp [h1, h2, h3] at hc
theorem capped_yes {g : Graph} {r : Record} (h : graphOk g = true ∧ recordOk r = true ∧ isNodeM g r.op = true) (h1 : Int.toNat r.op < g.nodes.length) :
    cappedM g r = (((g.nodes[Int.toNat r.op].kind == 7) && decide (0 < ((g.nodes[Int.toNat r.op].outs.length : Nat) : Int))) && !(nextT r.stamp).2) := by
  have hn := nodeOf_yes (isNode_of h.2.2)
  simp only [cappedM, hn, h.1, h.2.1]; rfl
def addOut (f : List Int) (k : Int) : List Int := if k ∈ f then f else f ++ [k]
def addOuts (f outs : List Int) : List Int := outs.foldl addOut f
def reachGo (g : Graph) : Nat → Nat → List Int → List Int
  | 0, _, f => f
  | n + 1, i, f => if i < f.length then reachGo g n (i + 1) (addOuts f (List.getD g.nodes (Int.toNat (List.getD f i default)) default).outs) else f
def reachL (g : Graph) (a : Int) : List Int := reachGo g 10 0 (List.getD g.nodes (Int.toNat a) default).outs
def reaches (g : Graph) (a b : Int) : Bool := (graphOk g && isNodeM g a) && decide (b ∈ reachL g a)
theorem nodup_bound : ∀ (n : Nat) (xs : List Int), xs.Nodup → (∀ x ∈ xs, 0 ≤ x ∧ x < (n : Int)) → xs.length ≤ n
  | 0, xs, _, h => by
    cases xs with
    | nil => simp
    | cons x xs => have := h x (by simp); omega
  | n + 1, xs, hn, h => by
    by_cases hm : (n : Int) ∈ xs
    · have h1 := nodup_bound n (xs.erase (n : Int)) (hn.erase _) (fun x hx => by
        rw [hn.mem_erase_iff] at hx
        have := h x hx.2
        have := hx.1
        omega)
      have := List.length_erase_of_mem hm
      omega
    · have := nodup_bound n xs hn (fun x hx => by
        have := h x hx
        have : x ≠ (n : Int) := fun e => hm (e ▸ hx)
        omega)
      omega
/-- What has been found: what stood first, and others behind, each once. -/
def GoodF (g : Graph) (f0 f : List Int) : Prop := (∃ nw, f = f0 ++ nw ∧ nw.Nodup) ∧ ∀ x ∈ f, 0 ≤ x ∧ x < ((g.nodes.length : Nat) : Int)
section
variable {g : Graph} {f0 f f2 outs : List Int} {i j n : Nat} {a b k : Int}
theorem gok_len (h : graphOk g = true) : 1 ≤ g.nodes.length ∧ g.nodes.length ≤ 8 := by
  simp only [graphOk, headBad, Bool.and_eq_true, Bool.not_eq_true', Bool.or_eq_false_iff, Bool.not_eq_false'] at h
  have := win_iff.1 h.1.1.1; omega
theorem gok_at (h : graphOk g = true) (hi : i < g.nodes.length) : nodeAtOk g i g.nodes[i] = true := by
  simp only [graphOk, Bool.and_eq_true] at h
  have := List.all_eq_true.1 h.2 i (List.mem_range.2 hi)
  rwa [getD_at hi] at this
theorem gok_outs (h : graphOk g = true) (hi : i < g.nodes.length) : ∀ x ∈ g.nodes[i].outs, 0 ≤ x ∧ x < ((g.nodes.length : Nat) : Int) := fun x hx => by
  have hn := gok_at h hi
  simp only [nodeAtOk, atOk, Bool.and_eq_true, Bool.not_eq_true', Bool.or_eq_false_iff, Bool.not_eq_false'] at hn
  have h1 := hn.1.1
  simp only [nodeOk, Bool.and_eq_true] at h1
  have h2 := win_iff.1 (List.all_eq_true.1 h1.2 x hx)
  have h3 := List.all_eq_true.1 hn.2 x hx
  simp only [edgeBad, Bool.not_eq_true', Bool.or_eq_false_iff, decide_eq_false_iff_not] at h3
  omega
theorem outs_two (h : graphOk g = true) (hi : i < g.nodes.length) : (List.getD g.nodes i default).outs.length ≤ 2 := by
  have hn := gok_at h hi
  simp only [nodeAtOk, atOk, Bool.and_eq_true, Bool.not_eq_true', Bool.or_eq_false_iff, Bool.not_eq_false'] at hn
  have h1 := hn.1.1
  simp only [nodeOk, nodeT, Bool.and_eq_true, Bool.not_eq_true', Bool.or_eq_false_iff, decide_eq_false_iff_not] at h1
  rw [getD_at hi]; omega
theorem goodF_start (hi : Int.toNat a < g.nodes.length) (h : graphOk g = true) : GoodF g (List.getD g.nodes (Int.toNat a) default).outs g.nodes[Int.toNat a].outs := by
  refine ⟨⟨[], by rw [getD_at hi]; simp, by simp⟩, gok_outs h hi⟩
theorem goodF_len (hG : GoodF g f0 f) (h : graphOk g = true) (h0 : f0.length ≤ 2) : f.length ≤ 10 := by
  obtain ⟨⟨nw, rfl, hn⟩, hx⟩ := hG
  have := nodup_bound g.nodes.length nw hn (fun x hq => hx x (by simp [hq]))
  have := gok_len h
  simp; omega
theorem goodF_add (hG : GoodF g f0 f) (hk : 0 ≤ k ∧ k < ((g.nodes.length : Nat) : Int)) : GoodF g f0 (addOut f k) := by
  unfold addOut
  split
  · exact hG
  · rename_i hm
    obtain ⟨⟨nw, rfl, hn⟩, hx⟩ := hG
    refine ⟨⟨nw ++ [k], by simp, ?_⟩, fun x hq => ?_⟩
    · rw [List.nodup_append]
      refine ⟨hn, by simp, fun p hp q hq e => hm ?_⟩
      simp at hq; subst hq; subst e; simp [hp]
    · rcases List.mem_append.1 hq with hq | hq
      · exact hx x hq
      · simp at hq; subst hq; exact hk
theorem goodF_adds : ∀ {outs : List Int} {f : List Int}, GoodF g f0 f → (∀ x ∈ outs, 0 ≤ x ∧ x < ((g.nodes.length : Nat) : Int)) → GoodF g f0 (addOuts f outs)
  | [], _, h, _ => h
  | x :: outs, f, h, hx => goodF_adds (outs := outs) (goodF_add h (hx x (by simp))) (fun y hy => hx y (by simp [hy]))
theorem goodF_step {h1 : Int.toNat k < g.nodes.length} (hG : GoodF g f0 f) (h : graphOk g = true) (_ : 0 ≤ k ∧ k < ((g.nodes.length : Nat) : Int)) (hF : f2 = addOuts f (g.nodes[Int.toNat k].outs.take j)) : GoodF g f0 f2 := by
  subst hF
  exact goodF_adds hG fun x hx => gok_outs h h1 x (List.mem_of_mem_take hx)
theorem good2 {h1 : Int.toNat k < g.nodes.length} (hG : GoodF g f0 f) (h : graphOk g = true) (hb : 0 ≤ k ∧ k < ((g.nodes.length : Nat) : Int)) (h0 : f0.length ≤ 2) (hF : f2 = addOuts f (g.nodes[Int.toNat k].outs.take j)) : f2.length ≤ 10 := goodF_len (goodF_step hG h hb hF) h h0
theorem addOuts_yes (hF : f2 = addOuts f (outs.take j)) (h1 : j < outs.length) (hm : outs[j] ∉ f2) : f2 ++ [outs[j]] = addOuts f (outs.take (j + 1)) := by
  rw [List.take_succ_eq_append_getElem h1, addOuts, List.foldl_append]
  show _ = addOut (addOuts f (outs.take j)) outs[j]
  rw [← hF]; simp [addOut, hm]
theorem addOuts_no (hF : f2 = addOuts f (outs.take j)) (h1 : j < outs.length) (hm : outs[j] ∈ f2) : f2 = addOuts f (outs.take (j + 1)) := by
  rw [List.take_succ_eq_append_getElem h1, addOuts, List.foldl_append]
  show _ = addOut (addOuts f (outs.take j)) outs[j]
  rw [← hF]; simp [addOut, hm]
theorem reach_start (hi : Int.toNat a < g.nodes.length) : reachGo g (10 - 0) 0 g.nodes[Int.toNat a].outs = reachL g a := by
  rw [reachL, getD_at hi]
theorem reach_step {h1 : i < f.length} {h2 : Int.toNat f[i] < g.nodes.length} (hR : reachGo g (10 - i) i f = reachL g a) (_ : i < f.length) (hi : i < 10) (_ : 0 ≤ f[i] ∧ f[i] < ((g.nodes.length : Nat) : Int)) (hF : f2 = addOuts f (g.nodes[Int.toNat f[i]].outs.take j)) (hj : g.nodes[Int.toNat f[i]].outs.length ≤ j) :
    reachGo g (10 - (i + 1)) (i + 1) f2 = reachL g a := by
  rw [← hR, show 10 - i = (10 - (i + 1)) + 1 from by omega, reachGo, if_pos h1, getD_at h1, getD_at h2, hF, List.take_of_length_le hj]
theorem reach_end (hR : reachGo g (10 - i) i f = reachL g a) (hi : f.length ≤ i) : f = reachL g a := by
  rw [← hR]
  cases 10 - i with
  | zero => rfl
  | succ n => rw [reachGo, if_neg (by omega)]
theorem reaches_no (h : reaches g a b = true) (hc : (!(graphOk g) || !(isNodeM g a)) = true) : False := by
  simp only [reaches, Bool.and_eq_true] at h
  simp [h.1.1, h.1.2] at hc
theorem reaches_yes (h : graphOk g = true ∧ isNodeM g a = true) (hf : f = reachL g a) : Value.bool (decide (b ∈ f)) = .bool (reaches g a b) := by
  subst hf; simp only [reaches, h.1, h.2]; rfl
end
def hasLoopM (g : Graph) : Bool := !allR g.nodes.length (fun j => !reaches g ((j : Nat) : Int) ((j : Nat) : Int))
theorem loop_yes {g : Graph} {k : Nat} (h1 : k < g.nodes.length) (h : reaches g ((k : Nat) : Int) ((k : Nat) : Int) = true) : Value.bool true = .bool (hasLoopM g) := bt (by
  unfold hasLoopM
  cases hq : allR g.nodes.length (fun j => !reaches g ((j : Nat) : Int) ((j : Nat) : Int)) with
  | false => rfl
  | true => have := allR_get hq h1; simp [h] at this)
theorem loop_no {g : Graph} (h : allR g.nodes.length (fun j => !reaches g ((j : Nat) : Int) ((j : Nat) : Int)) = true) : Value.bool false = .bool (hasLoopM g) := by simp only [hasLoopM, h]; rfl
theorem reach_pre {g : Graph} {a : Int} (h : (graphOk g && win a 0 (IntKind.i64.wrap (((g.nodes.length : Nat) : Int) - 1))) = true) (hm : g.nodes.length ≤ maxLen) : graphOk g = true ∧ isNodeM g a = true := by
  rw [isN_w hm] at h
  simpa [isNodeM] using h
/-! ### marks of graphs -/
def numNd (k : Nat) (x : Node) : Nat := k + 1 * x.outs.length
def markNd (k : Nat) (x : Node) : Node := ⟨x.kind, x.a, x.b, mkL 1 mkInt k x.outs.length⟩
theorem markNd_idem (k : Nat) (x : Node) : markNd k x = markNd k (markNd k x) := by simp [markNd, mkL_length]
theorem numNd_mark (j k : Nat) (x : Node) : numNd j (markNd k x) = numNd j x := by simp [numNd, markNd, mkL_length]
def markN1 (k : Nat) (x : Node) : Node := ⟨((k : Nat) : Int), ((k + 1 : Nat) : Int), ((k + 1 + 1 : Nat) : Int), mkL 1 mkInt (k + 1 + 1 + 1) x.outs.length⟩
def numN1 (k : Nat) (x : Node) : Nat := k + 1 + 1 + 1 + 1 * x.outs.length
def numA {α : Type} (n : Nat → α → Nat) : Nat → List α → Nat
  | k, [] => k
  | k, x :: xs => numA n (n k x) xs
def markA {α : Type} (n : Nat → α → Nat) (m : Nat → α → α) : Nat → List α → List α
  | _, [] => []
  | k, x :: xs => m k x :: markA n m (n k x) xs
section
variable {α : Type} {n : Nat → α → Nat} {m : Nat → α → α} {cnt : α → Nat} {c : Nat}
theorem markA_length : ∀ (k : Nat) (xs : List α), (markA n m k xs).length = xs.length
  | _, [] => rfl
  | k, x :: xs => by simp [markA, markA_length]
theorem numA_snoc : ∀ (k : Nat) (xs : List α) (x : α), numA n k (xs ++ [x]) = n (numA n k xs) x
  | _, [], _ => rfl
  | k, y :: xs, x => by simp only [List.cons_append, numA]; exact numA_snoc _ xs x
theorem markA_snoc : ∀ (k : Nat) (xs : List α) (x : α), markA n m k (xs ++ [x]) = markA n m k xs ++ [m (numA n k xs) x]
  | _, [], _ => rfl
  | k, y :: xs, x => by simp only [List.cons_append, markA, numA, markA_snoc _ xs x]
theorem numA_take {k i : Nat} {xs : List α} (h : i < xs.length) : numA n k (xs.take (i + 1)) = n (numA n k (xs.take i)) xs[i] := by
  rw [List.take_succ_eq_append_getElem h, numA_snoc]
theorem markA_take {k i : Nat} {xs r : List α} (h : i < xs.length) : markA n m k (xs.take (i + 1)) ++ r = markA n m k (xs.take i) ++ m (numA n k (xs.take i)) xs[i] :: r := by
  rw [List.take_succ_eq_append_getElem h, markA_snoc]; simp
theorem numA_bd (h : ∀ k x, n k x ≤ k + c * (1 + cnt x)) : ∀ (k : Nat) (xs : List α), numA n k xs ≤ k + c * cntL cnt xs
  | _, [] => by simp [numA]
  | k, x :: xs => by
    have h1 := numA_bd h (n k x) xs
    have h2 := h k x
    simp only [numA, cntL, List.map_cons, List.sum_cons, List.length_cons, Nat.mul_add] at *; omega
theorem cntL_take {i : Nat} {xs : List α} : cntL cnt (xs.take i) ≤ cntL cnt xs := by
  unfold cntL
  induction xs generalizing i with
  | nil => simp
  | cons x xs ih =>
    cases i with
    | zero => simp
    | succ i => have := @ih i; simp only [List.take_succ_cons, List.length_cons, List.map_cons, List.sum_cons] at *; omega
theorem numA_le {k i : Nat} {xs : List α} (h : ∀ k x, n k x ≤ k + c * (1 + cnt x)) (hi : i < xs.length) : n (numA n k (xs.take i)) xs[i] ≤ k + c * cntL cnt xs := by
  rw [← numA_take (n := n) hi]
  exact Nat.le_trans (numA_bd h k _) (Nat.add_le_add_left (Nat.mul_le_mul_left _ cntL_take) _)
theorem numA_mark (h : ∀ j k x, n j (m k x) = n j x) : ∀ (j k : Nat) (xs : List α), numA n j (markA n m k xs) = numA n j xs
  | _, _, [] => rfl
  | j, k, x :: xs => by simp only [markA, numA, h, numA_mark h _ _ xs]
theorem markA_idem (hn : ∀ j k x, n j (m k x) = n j x) (h : ∀ k x, m k (m k x) = m k x) : ∀ (k : Nat) (xs : List α), markA n m k (markA n m k xs) = markA n m k xs
  | _, [] => rfl
  | k, x :: xs => by simp only [markA, h, hn, markA_idem hn h _ xs]
theorem cntA_mark (h : ∀ k x, cnt (m k x) = cnt x) : ∀ (k : Nat) (xs : List α), cntL cnt (markA n m k xs) = cntL cnt xs
  | _, [] => rfl
  | k, x :: xs => by
    have := cntA_mark h (n k x) xs
    simp only [cntL, markA, List.length_cons, List.map_cons, List.sum_cons, h] at *; omega
theorem markA_at {k i : Nat} {xs : List α} (hm : xs = markA n m k xs) (hi : i < xs.length) : xs[i] = m (numA n k (xs.take i)) xs[i] := by
  have h := markA_take (n := n) (m := m) (k := k) (r := markA n m (numA n k (xs.take (i + 1))) (xs.drop (i + 1))) hi
  have happ : ∀ (k : Nat) (a b : List α), markA n m k (a ++ b) = markA n m k a ++ markA n m (numA n k a) b := by
    intro k a b
    induction a generalizing k with
    | nil => rfl
    | cons x a ih => simp only [List.cons_append, markA, numA, ih]
  rw [← happ, List.take_append_drop, ← hm] at h
  have hl : (markA n m k (xs.take i)).length = i := by rw [markA_length]; simp; omega
  have := congrArg (fun l => l[i]?) h
  simp only [List.getElem?_append_right (Nat.le_of_eq hl), hl, Nat.sub_self, List.getElem?_cons_zero] at this
  rw [List.getElem?_eq_getElem hi, Option.some.injEq] at this
  exact this
end
theorem numN1_bd (k : Nat) (x : Node) : numN1 k x ≤ k + 4 * (1 + cntNode x) := by simp only [numN1, cntNode]; omega
def numL1 (k : Nat) (x : Link) : Nat := k + 1 + 5 * x.queue.length + 1 + 1 + 1 + 1
def markL1 (k : Nat) (x : Link) : Link := ⟨((k : Nat) : Int), mkL 5 mkRecord (k + 1) x.queue.length, ((k + 1 + 5 * x.queue.length : Nat) : Int), ((k + 1 + 5 * x.queue.length + 1 : Nat) : Int), ((k + 1 + 5 * x.queue.length + 1 + 1 : Nat) : Int), ((k + 1 + 5 * x.queue.length + 1 + 1 + 1 : Nat) : Int)⟩
theorem numL1_bd (k : Nat) (x : Link) : numL1 k x ≤ k + 5 * (1 + cntLink x) := by simp only [numL1, cntLink]; omega
theorem numW_bd (k : Nat) (x : Worker) : numW k x ≤ k + 5 * (1 + cntWorker x) := by simp only [numW, cntWorker]; omega
def numCl (k : Nat) (x : Cluster) : Nat := numA numL1 (numA numW (numA numN1 k x.graph.nodes) x.workers) x.links + 5 * x.tokens.length + 3 * x.news.length
def markCl (k : Nat) (x : Cluster) : Cluster :=
  ⟨⟨markA numN1 markN1 k x.graph.nodes, x.graph.workers, x.graph.cap⟩, markA numW markW (numA numN1 k x.graph.nodes) x.workers, markA numL1 markL1 (numA numW (numA numN1 k x.graph.nodes) x.workers) x.links,
    mkL 5 mkToken (numA numL1 (numA numW (numA numN1 k x.graph.nodes) x.workers) x.links) x.tokens.length, mkL 3 mkNews (numA numL1 (numA numW (numA numN1 k x.graph.nodes) x.workers) x.links + 5 * x.tokens.length) x.news.length⟩
theorem cntNd_mark (k : Nat) (x : Node) : cntNode (markNd k x) = cntNode x := by simp [cntNode, markNd, mkL_length]
theorem nodeOf_le {g : Graph} {op : Int} : cntNode (nodeOf g op).1 ≤ cntGraph g := by
  unfold nodeOf
  split
  · rename_i h
    have hop := isNode_of h
    rw [getD_at hop.2.2]
    have := mem_cnt (f := cntNode) (List.getElem_mem hop.2.2)
    simp only [cntGraph, cntL]; omega
  · simp [cntNode]
/-! ### outs -/
def outsTo (g : Graph) (k : Nat) : List Int := ((List.range k).filter (fun i => (List.getD g.nodes i default).kind == 8)).map fun i => ((i : Nat) : Int)
theorem outs_yes {g : Graph} {k : Nat} (h1 : k < g.nodes.length) (h : (g.nodes[k].kind == 8) = true) : (outsTo g k).flatMap Enc.enc ++ [Value.int .i64 ((k : Nat) : Int)] = (outsTo g (k + 1)).flatMap Enc.enc := by
  simp only [outsTo, List.range_succ, List.filter_append, List.map_append, List.flatMap_append]
  have : ((List.getD g.nodes k default).kind == 8) = true := by rw [getD_at h1]; exact h
  rw [List.filter_cons, if_pos this]; rfl
theorem outs_no {g : Graph} {k : Nat} (h1 : k < g.nodes.length) (h : (g.nodes[k].kind == 8) = false) : (outsTo g k).flatMap Enc.enc = (outsTo g (k + 1)).flatMap Enc.enc := by
  simp only [outsTo, List.range_succ, List.filter_append, List.map_append, List.flatMap_append]
  have : ¬ ((List.getD g.nodes k default).kind == 8) = true := by rw [getD_at h1, h]; simp
  rw [List.filter_cons, if_neg this]; simp
theorem outsTo_len (g : Graph) (k : Nat) : (outsTo g k).length ≤ k := by
  unfold outsTo
  rw [List.length_map]
  exact Nat.le_trans (List.length_filter_le _ _) (by simp)
def outOf (g : Graph) (x : Cell) : Bool := isNodeM g x.op && ((List.getD g.nodes (Int.toNat x.op) default).kind == 8)
theorem outOf_two {g : Graph} {x : Cell} : ((nodeOf g x.op).2 && ((nodeOf g x.op).1.kind == 8)) = outOf g x := by
  unfold outOf nodeOf; cases h : isNodeM g x.op <;> simp
/-! ### workers that are turned -/
def workerNew (xs : List Record) : Worker := ⟨[], [], xs, [], [0, 0, 0, 0], [false, false, false, false], [false, false, false, false], []⟩
def keptW (x : Worker) (r : Record) : Worker := ⟨x.queue ++ [r], x.staged, x.inputs, x.cells, x.sums, x.black, x.caps, x.dones⟩
theorem cnt_kept (x : Worker) (r : Record) : cntWorker (keptW x r) = cntWorker x + 1 := by simp [cntWorker, keptW]; omega
theorem cnt_new (xs : List Record) : cntWorker (workerNew xs) = xs.length + 12 := by simp [cntWorker, workerNew]
theorem sent_of {n : Nat} {e : Int} (hm : n ≤ maxLen) (h : win e 0 (IntKind.i64.wrap (((n : Nat) : Int) - 1)) = true) : 0 ≤ e ∧ e < ((n : Nat) : Int) ∧ Int.toNat e < n := by
  rw [isN_w hm] at h
  have := win_iff.1 h
  omega
theorem sent_no {n : Nat} {e : Int} (hm : n ≤ maxLen) (h : win e 0 (IntKind.i64.wrap (((n : Nat) : Int) - 1)) = false) : ¬ (0 ≤ e ∧ e < ((n : Nat) : Int)) := fun hx => by
  rw [isN_w hm] at h
  have : win e 0 (((n : Nat) : Int) - 1) = true := win_iff.2 ⟨hx.1, by omega⟩
  rw [this] at h; cases h
def sentW (x : Worker) (e : Int) : Worker := if 0 ≤ e ∧ e < ((x.sums.length : Nat) : Int) then ⟨x.queue, x.staged, x.inputs, x.cells, x.sums.set (Int.toNat e) (IntKind.i64.wrap (List.getD x.sums (Int.toNat e) default + 1)), x.black, x.caps, x.dones⟩ else x
theorem sentW_yes {x : Worker} {e : Int} (h : 0 ≤ e ∧ e < ((x.sums.length : Nat) : Int) ∧ Int.toNat e < x.sums.length) : sentW x e = ⟨x.queue, x.staged, x.inputs, x.cells, x.sums.set (Int.toNat e) (IntKind.i64.wrap ((x.sums[Int.toNat e]'h.2.2) + 1)), x.black, x.caps, x.dones⟩ := by
  rw [sentW, if_pos ⟨h.1, h.2.1⟩, getD_at h.2.2]
theorem sentW_no {x : Worker} {e : Int} (hm : x.sums.length ≤ maxLen) (h : win e 0 (IntKind.i64.wrap (((x.sums.length : Nat) : Int) - 1)) = false) : sentW x e = x := by
  rw [sentW, if_neg (sent_no hm h)]
theorem cnt_sent (x : Worker) (e : Int) : cntWorker (sentW x e) = cntWorker x := by unfold sentW; split <;> simp [cntWorker]
def recvOk (x : Worker) (r : Record) : Prop := 0 ≤ r.stamp.epoch ∧ r.stamp.epoch < ((x.sums.length : Nat) : Int) ∧ r.stamp.epoch < ((x.black.length : Nat) : Int) ∧ Int.toNat r.stamp.epoch < x.sums.length ∧ Int.toNat r.stamp.epoch < x.black.length
instance (x : Worker) (r : Record) : Decidable (recvOk x r) := by unfold recvOk; infer_instance
def recvW (x : Worker) (r : Record) : Worker := if recvOk x r then ⟨x.queue ++ [r], x.staged, x.inputs, x.cells, x.sums.set (Int.toNat r.stamp.epoch) (IntKind.i64.wrap (List.getD x.sums (Int.toNat r.stamp.epoch) default - 1)), x.black.set (Int.toNat r.stamp.epoch) true, x.caps, x.dones⟩ else keptW x r
theorem recvW_yes {x : Worker} {r : Record} (h : recvOk x r) : recvW x r = ⟨x.queue ++ [r], x.staged, x.inputs, x.cells, x.sums.set (Int.toNat r.stamp.epoch) (IntKind.i64.wrap ((x.sums[Int.toNat r.stamp.epoch]'h.2.2.2.1) - 1)), x.black.set (Int.toNat r.stamp.epoch) true, x.caps, x.dones⟩ := by
  rw [recvW, if_pos h, getD_at h.2.2.2.1]
theorem recvW_no {x : Worker} {r : Record} (h : ¬ recvOk x r) : recvW x r = keptW x r := by rw [recvW, if_neg h]
theorem recv_i {x : Worker} {r : Record} (h1 : x.sums.length ≤ maxLen) (h2 : x.black.length ≤ maxLen) (h : win r.stamp.epoch 0 (IntKind.i64.wrap ((if ((x.black.length : Nat) : Int) < ((x.sums.length : Nat) : Int) then ((x.black.length : Nat) : Int) else ((x.sums.length : Nat) : Int)) - 1)) = true) : recvOk x r := by
  unfold maxLen at h1 h2
  rw [wrap_in (by split <;> omega) (by split <;> omega)] at h
  have := win_iff.1 h
  unfold recvOk
  split at this <;> omega
theorem recv_in {x : Worker} {r : Record} (h1 : x.sums.length ≤ maxLen) (h2 : x.black.length ≤ maxLen) (h : win r.stamp.epoch 0 (IntKind.i64.wrap ((if ((x.black.length : Nat) : Int) < ((x.sums.length : Nat) : Int) then ((x.black.length : Nat) : Int) else ((x.sums.length : Nat) : Int)) - 1)) = false) : ¬ recvOk x r := fun hx => by
  unfold maxLen at h1 h2
  rw [wrap_in (by split <;> omega) (by split <;> omega)] at h
  unfold recvOk at hx
  rw [win_iff.2 ⟨hx.1, by split <;> omega⟩] at h; cases h
theorem recv_s {x : Worker} {r : Record} (h1 : x.sums.length ≤ maxLen) (h : (win r.stamp.epoch 0 (IntKind.i64.wrap (((x.sums.length : Nat) : Int) - 1)) && decide (r.stamp.epoch < ((x.black.length : Nat) : Int))) = true) : recvOk x r := by
  simp only [Bool.and_eq_true, decide_eq_true_eq] at h
  have := sent_of h1 h.1
  unfold recvOk; omega
theorem recv_sn {x : Worker} {r : Record} (h1 : x.sums.length ≤ maxLen) (h : (win r.stamp.epoch 0 (IntKind.i64.wrap (((x.sums.length : Nat) : Int) - 1)) && decide (r.stamp.epoch < ((x.black.length : Nat) : Int))) = false) : ¬ recvOk x r := fun hx => by
  unfold recvOk at hx
  rw [isN_w h1, win_iff.2 ⟨hx.1, by omega⟩, Bool.true_and, decide_eq_false_iff_not] at h
  exact h hx.2.2.1
theorem cnt_recv (x : Worker) (r : Record) : cntWorker (recvW x r) = cntWorker x + 1 := by unfold recvW; split <;> simp [cntWorker, keptW] <;> omega
/-! ### clusters -/
theorem take_all {α : Type} {xs ys : List α} {k : Nat} (hp : xs.take k = ys.take k) (hl : xs.length = ys.length) (hk : xs.length ≤ k) : xs = ys := by
  rwa [List.take_of_length_le hk, List.take_of_length_le (by omega)] at hp
section
variable {x y : Cluster}
theorem sc_len1 (h : ((((!(decide (x.graph = y.graph)) || (((x.workers.length : Nat) : Int) != ((y.workers.length : Nat) : Int))) || (((x.links.length : Nat) : Int) != ((y.links.length : Nat) : Int))) || (((x.tokens.length : Nat) : Int) != ((y.tokens.length : Nat) : Int))) || (((x.news.length : Nat) : Int) != ((y.news.length : Nat) : Int))) = false) : x.workers.length = y.workers.length := by simp at h; omega
theorem sc_len2 (h : ((((!(decide (x.graph = y.graph)) || (((x.workers.length : Nat) : Int) != ((y.workers.length : Nat) : Int))) || (((x.links.length : Nat) : Int) != ((y.links.length : Nat) : Int))) || (((x.tokens.length : Nat) : Int) != ((y.tokens.length : Nat) : Int))) || (((x.news.length : Nat) : Int) != ((y.news.length : Nat) : Int))) = false) : x.links.length = y.links.length := by simp at h; omega
theorem sc_len3 (h : ((((!(decide (x.graph = y.graph)) || (((x.workers.length : Nat) : Int) != ((y.workers.length : Nat) : Int))) || (((x.links.length : Nat) : Int) != ((y.links.length : Nat) : Int))) || (((x.tokens.length : Nat) : Int) != ((y.tokens.length : Nat) : Int))) || (((x.news.length : Nat) : Int) != ((y.news.length : Nat) : Int))) = false) : x.tokens.length = y.tokens.length := by simp at h; omega
theorem sc_len4 (h : ((((!(decide (x.graph = y.graph)) || (((x.workers.length : Nat) : Int) != ((y.workers.length : Nat) : Int))) || (((x.links.length : Nat) : Int) != ((y.links.length : Nat) : Int))) || (((x.tokens.length : Nat) : Int) != ((y.tokens.length : Nat) : Int))) || (((x.news.length : Nat) : Int) != ((y.news.length : Nat) : Int))) = false) : x.news.length = y.news.length := by simp at h; omega
theorem sc_yes (h : ((((!(decide (x.graph = y.graph)) || (((x.workers.length : Nat) : Int) != ((y.workers.length : Nat) : Int))) || (((x.links.length : Nat) : Int) != ((y.links.length : Nat) : Int))) || (((x.tokens.length : Nat) : Int) != ((y.tokens.length : Nat) : Int))) || (((x.news.length : Nat) : Int) != ((y.news.length : Nat) : Int))) = false) (h1 : x.workers = y.workers) (h2 : x.links = y.links) (h3 : x.tokens = y.tokens) (h4 : x.news = y.news) : Value.bool true = .bool (decide (x = y)) := by
  cases x; cases y; simp_all
end
def goN (xs : List Token) : Nat := (xs.filter (fun t => t.going)).length
theorem goN_yes {xs : List Token} {k q : Nat} (hq : q = goN (xs.take k)) (h1 : k < xs.length) (h : xs[k].going = true) : q + 1 = goN (xs.take (k + 1)) := by
  rw [List.take_succ_eq_append_getElem h1, goN, List.filter_append, List.length_append, hq]; simp [h, goN]
theorem goN_no {xs : List Token} {k q : Nat} (hq : q = goN (xs.take k)) (h1 : k < xs.length) (h : xs[k].going = false) : q = goN (xs.take (k + 1)) := by
  rw [List.take_succ_eq_append_getElem h1, goN, List.filter_append, List.length_append, hq]; simp [h, goN]
def defS (e n : Int) (x : Worker) : Int := if 0 ≤ e ∧ e < ((x.sums.length : Nat) : Int) then IntKind.i64.wrap (n + List.getD x.sums (Int.toNat e) default) else n
def defTo (c : Cluster) (e : Int) (k : Nat) : Int := (c.workers.take k).foldl (defS e) 0
theorem def_yes {c : Cluster} {e n : Int} {k : Nat} (hq : n = defTo c e k) (h1 : k < c.workers.length) (h : 0 ≤ e ∧ e < ((c.workers[k].sums.length : Nat) : Int) ∧ Int.toNat e < c.workers[k].sums.length) : IntKind.i64.wrap (n + (c.workers[k].sums[Int.toNat e]'h.2.2)) = defTo c e (k + 1) := by
  rw [defTo, List.take_succ_eq_append_getElem h1, List.foldl_append, hq]
  simp only [List.foldl_cons, List.foldl_nil, defS]
  rw [if_pos ⟨h.1, h.2.1⟩, getD_at h.2.2]; rfl
theorem def_no {c : Cluster} {e n : Int} {k : Nat} (hq : n = defTo c e k) (h1 : k < c.workers.length) (hm : c.workers[k].sums.length ≤ maxLen) (h : win e 0 (IntKind.i64.wrap (((c.workers[k].sums.length : Nat) : Int) - 1)) = false) : n = defTo c e (k + 1) := by
  rw [defTo, List.take_succ_eq_append_getElem h1, List.foldl_append, hq]
  simp only [List.foldl_cons, List.foldl_nil, defS]
  rw [if_neg (sent_no hm h)]; rfl
/-! ### clusters that are valid -/
def linkOk (l : Link) : Bool := (((((((win l.cap 1 4 && win l.credits 0 l.cap) && win l.back 0 l.cap) && (IntKind.i64.wrap (IntKind.i64.wrap (l.credits + l.back) + ((l.queue.length : Nat) : Int)) == l.cap)) && win l.sent 0 1000000000) && (l.got == l.sent - ((l.queue.length : Nat) : Int))) && decide (0 ≤ l.got)) && l.queue.all recordOk)
section
variable {x : Link}
theorem lk_i1 (h : linkOk x = true) (hc : ((((!(win x.cap 1 4)) || (!(win x.credits 0 x.cap))) || (!(win x.back 0 x.cap))) || (IntKind.i64.wrap (IntKind.i64.wrap (x.credits + x.back) + ((x.queue.length : Nat) : Int)) != x.cap)) = true) : False := by
  simp only [linkOk, Bool.and_eq_true, beq_iff_eq] at h
  obtain ⟨⟨⟨⟨⟨⟨⟨h1, h2⟩, h3⟩, h4⟩, h5⟩, h6⟩, h7⟩, h8⟩ := h
  simp [h1, h2, h3, h4] at hc
theorem lk_i2 (hr : rg x.got) (h : linkOk x = true) (hc : (((!(win x.sent 0 1000000000)) || (decide (x.got < 0))) || (IntKind.i64.wrap (x.sent - x.got) != ((x.queue.length : Nat) : Int))) = true) : False := by
  simp only [linkOk, Bool.and_eq_true, beq_iff_eq, decide_eq_true_eq] at h
  obtain ⟨⟨⟨⟨⟨⟨⟨h1, h2⟩, h3⟩, h4⟩, h5⟩, h6⟩, h7⟩, h8⟩ := h
  have hs := win_iff.1 h5
  unfold rg at hr
  rw [wrap_in (by omega) (by omega)] at hc
  simp [h5] at hc
  omega
theorem lk_i3 (hr : rg x.got) (hc : ((((!(win x.cap 1 4)) || (!(win x.credits 0 x.cap))) || (!(win x.back 0 x.cap))) || (IntKind.i64.wrap (IntKind.i64.wrap (x.credits + x.back) + ((x.queue.length : Nat) : Int)) != x.cap)) = false)
    (hc2 : (((!(win x.sent 0 1000000000)) || (decide (x.got < 0))) || (IntKind.i64.wrap (x.sent - x.got) != ((x.queue.length : Nat) : Int))) = false) : linkOk x = x.queue.all recordOk := by
  simp only [Bool.or_eq_false_iff, Bool.not_eq_false', bne_eq_false_iff_eq, decide_eq_false_iff_not] at hc hc2
  obtain ⟨⟨⟨h1, h2⟩, h3⟩, h4⟩ := hc
  obtain ⟨⟨h5, h6⟩, h7⟩ := hc2
  have hs := win_iff.1 h5
  unfold rg at hr
  rw [wrap_in (by omega) (by omega)] at h7
  have h8 : (x.got == x.sent - ((x.queue.length : Nat) : Int)) = true := by rw [beq_iff_eq]; omega
  have h9 : decide (0 ≤ x.got) = true := decide_eq_true (by omega)
  simp only [linkOk, h1, h2, h3, h4, h5, h8, h9]; simp
theorem lk_s1 {k : Nat} (h1 : k < x.queue.length) (h : linkOk x = true) (hc : (!(recordOk x.queue[k])) = true) : False := by
  simp only [linkOk, Bool.and_eq_true] at h
  have := List.all_eq_true.1 h.2 _ (List.getElem_mem h1)
  simp [this] at hc
theorem lk_s2 (hm : x.queue.length ≤ maxLen) (ha : x.queue.all recordOk = true) : linkOk x = ((((((win x.cap 1 4 && win x.credits 0 x.cap) && win x.back 0 x.cap) && (IntKind.i64.wrap (IntKind.i64.wrap (x.credits + x.back) + ((x.queue.length : Nat) : Int)) == x.cap)) && win x.sent 0 1000000000) && (x.got == IntKind.i64.wrap (x.sent - ((x.queue.length : Nat) : Int)))) && decide (0 ≤ x.got)) := by
  unfold maxLen at hm
  cases h5 : win x.sent 0 1000000000 with
  | false => simp [linkOk, h5]
  | true =>
    have hs := win_iff.1 h5
    rw [wrap_in (z := x.sent - ((x.queue.length : Nat) : Int)) (by omega) (by omega)]
    simp only [linkOk, h5, ha, Bool.and_true]
end
def lkBad (g : Graph) (k : Nat) (l : Link) : Bool := ((!(linkOk l) || (l.cap != g.cap)) || !(l.queue.all (opOk g))) || ((IntKind.i64.wrap (Int.tdiv ((k : Nat) : Int) g.workers) == Int.tmod ((k : Nat) : Int) g.workers) && decide (0 < ((l.queue.length : Nat) : Int)))
def tkBad (g : Graph) (t : Token) : Bool := (!(win t.place 0 (IntKind.i64.wrap (g.workers - 1))) || (!t.going && (t.place != 0))) || !(win t.sum (-1000000) 1000000)
def nwBad (g : Graph) (t : News) : Bool := !(win t.dest 0 (IntKind.i64.wrap (g.workers - 1))) || !(win t.epoch 0 3)
def clHead (c : Cluster) : Bool := ((!(graphOk c.graph) || (((c.workers.length : Nat) : Int) != c.graph.workers)) || (((c.links.length : Nat) : Int) != IntKind.i64.wrap (c.graph.workers * c.graph.workers))) || (((c.tokens.length : Nat) : Int) != 4)
def clOk (c : Cluster) : Bool := !(clHead c) && c.workers.all (workerOk c.graph) && allR c.links.length (fun j => !lkBad c.graph j (List.getD c.links j default)) && c.tokens.all (fun t => !tkBad c.graph t) && c.news.all (fun t => !nwBad c.graph t)
theorem nb {b : Bool} (h : b = false) : (!b) = true := by rw [h]; rfl
section
variable {x : Cluster} {k : Nat}
theorem lk_at (h1 : k < x.links.length) (h : lkBad x.graph k x.links[k] = false) : (fun j => !lkBad x.graph j (List.getD x.links j default)) k = true := by
  show (!lkBad x.graph k (List.getD x.links k default)) = true
  rw [getD_at h1, h]; rfl
theorem cl_g (h : clHead x = false) : 1 ≤ x.graph.workers ∧ x.graph.workers ≤ 4 := by
  simp only [clHead, Bool.or_eq_false_iff, Bool.not_eq_false'] at h
  have h1 := h.1.1.1
  simp only [graphOk, headBad, Bool.and_eq_true, Bool.not_eq_true', Bool.or_eq_false_iff, Bool.not_eq_false'] at h1
  exact win_iff.1 h1.1.1.2
theorem cl_w (h : clHead x = false) : ((x.workers.length : Nat) : Int) = x.graph.workers := by
  simp only [clHead, Bool.or_eq_false_iff, bne_eq_false_iff_eq] at h
  exact h.1.1.2
theorem cl_0 (h : clHead x = true) : Value.bool false = .bool (clOk x) := by simp only [clOk, h]; rfl
theorem cl_1 (h1 : k < x.workers.length) (h : workerOk x.graph x.workers[k] = false) : Value.bool false = .bool (clOk x) := bf fun hq => by
  simp only [clOk, Bool.and_eq_true] at hq
  have := List.all_eq_true.1 hq.1.1.1.2 _ (List.getElem_mem h1)
  rw [h] at this; cases this
theorem cl_2 (h1 : k < x.links.length) (h : lkBad x.graph k x.links[k] = true) : Value.bool false = .bool (clOk x) := bf fun hq => by
  simp only [clOk, Bool.and_eq_true] at hq
  have := allR_get hq.1.1.2 h1
  rw [getD_at h1, h] at this; cases this
theorem cl_3 (h1 : k < x.tokens.length) (h : tkBad x.graph x.tokens[k] = true) : Value.bool false = .bool (clOk x) := bf fun hq => by
  simp only [clOk, Bool.and_eq_true] at hq
  have := List.all_eq_true.1 hq.1.2 _ (List.getElem_mem h1)
  rw [h] at this; cases this
theorem cl_4 (h1 : k < x.news.length) (h : nwBad x.graph x.news[k] = true) : Value.bool false = .bool (clOk x) := bf fun hq => by
  simp only [clOk, Bool.and_eq_true] at hq
  have := List.all_eq_true.1 hq.2 _ (List.getElem_mem h1)
  rw [h] at this; cases this
theorem cl_5 (h0 : clHead x = false) (h1 : x.workers.all (workerOk x.graph) = true) (h2 : allR x.links.length (fun j => !lkBad x.graph j (List.getD x.links j default)) = true) (h3 : x.tokens.all (fun t => !tkBad x.graph t) = true) (h4 : x.news.all (fun t => !nwBad x.graph t) = true) : Value.bool true = .bool (clOk x) :=
  bt (by simp only [clOk, h0, h1, h2, h3, h4]; rfl)
end
/-! ### those that are taken out -/
section
variable {α : Type} {xs ys : List α} {p : α → Bool} {i j : Nat}
theorem find_some (h : ¬ findI xs p = -1) : xs.any p = true := by
  unfold findI at h
  split at h
  · assumption
  · exact absurd rfl h
theorem find_eq (h : xs.any p = true) : findI xs p = ((xs.findIdx p : Nat) : Int) := by rw [findI, if_pos h]
theorem find_lt (h : xs.any p = true) : xs.findIdx p < xs.length := by
  rw [List.any_eq_true] at h
  exact List.findIdx_lt_length_of_exists h
theorem del_none (h : findI xs p = -1) : xs.filter (fun y => !(p y)) = xs := by
  unfold findI at h
  split at h
  · omega
  · rename_i hn
    rw [List.filter_eq_self]
    intro y hy
    have : p y = false := by
      cases hq : p y with
      | false => rfl
      | true => exact absurd (List.any_eq_true.2 ⟨y, hy, hq⟩) hn
    rw [this]; rfl
theorem del_start (h : xs.any p = true) : xs.take (xs.findIdx p) = (xs.take (xs.findIdx p + 1)).filter (fun y => !(p y)) := by
  have hl := find_lt h
  rw [List.take_succ_eq_append_getElem hl, List.filter_append]
  have h1 : p xs[xs.findIdx p] = true := List.findIdx_getElem
  have h2 : (xs.take (xs.findIdx p)).filter (fun y => !(p y)) = xs.take (xs.findIdx p) := by
    rw [List.filter_eq_self]
    intro y hy
    rw [List.mem_take_iff_getElem] at hy
    obtain ⟨q, hq, rfl⟩ := hy
    have := List.not_of_lt_findIdx (p := p) (xs := xs) (i := q) (by omega)
    simpa using this
  rw [h2]; simp [h1]
theorem del_same (hD : ys.drop j = xs.drop j) (hyl : ys.length = xs.length) (h1 : j < ys.length) : ys[j] = xs[j]'(by omega) := by
  have := congrArg (fun l => l[0]?) hD
  simp only [List.getElem?_drop, Nat.add_zero] at this
  rw [List.getElem?_eq_getElem h1, List.getElem?_eq_getElem (by omega)] at this
  exact Option.some.inj this
theorem del_no1 (hI : ys.take i = (xs.take j).filter (fun y => !(p y))) (hD : ys.drop j = xs.drop j) (hyl : ys.length = xs.length) (_ : i < j) (h1 : j < ys.length) (hc : p ys[j] = true) : ys.take i = (xs.take (j + 1)).filter (fun y => !(p y)) := by
  rw [List.take_succ_eq_append_getElem (by omega), List.filter_append, ← hI, ← del_same hD hyl h1]; simp [hc]
theorem del_no2 (hD : ys.drop j = xs.drop j) (_ : ys.length = xs.length) (_ : i < j) : ys.drop (j + 1) = xs.drop (j + 1) := by
  rw [← List.drop_drop, ← List.drop_drop, hD]
theorem del_yes1 (hI : ys.take i = (xs.take j).filter (fun y => !(p y))) (hD : ys.drop j = xs.drop j) (hyl : ys.length = xs.length) (hij : i < j) (h1 : j < ys.length) (hc : p ys[j] = false) : (ys.set i ys[j]).take (i + 1) = (xs.take (j + 1)).filter (fun y => !(p y)) := by
  rw [List.take_succ_eq_append_getElem (l := xs) (by omega), List.filter_append, ← hI, ← del_same hD hyl h1]
  rw [List.take_succ_eq_append_getElem (by simp; omega), List.take_set_of_le (Nat.le_refl _)]
  simp [hc]
theorem del_yes2 (hD : ys.drop j = xs.drop j) (hyl : ys.length = xs.length) (hij : i < j) {y : α} : (ys.set i y).drop (j + 1) = xs.drop (j + 1) := by
  rw [List.drop_set_of_lt (by omega)]; exact del_no2 hD hyl hij
theorem del_end (hI : ys.take i = (xs.take j).filter (fun y => !(p y))) (h : xs.length ≤ j) : ys.take i = xs.filter (fun y => !(p y)) := by rw [hI, List.take_of_length_le h]
end
/-! ### a cell is put in its place -/
def putLt (x y : Cell) : Bool := decide (cellOrd y x < 0)
def putAt (xs : List Cell) (x : Cell) : Nat := xs.findIdx (fun y => !(putLt x y))
def putM (xs : List Cell) (x : Cell) : List Cell := if x ∈ xs then xs else insM xs (putAt xs x) x
section
variable {xs : List Cell} {x : Cell} {k : Nat}
theorem putM_yes (h : decide (x ∈ xs) = true) : putM xs x = xs := by rw [putM, if_pos (of_decide_eq_true h)]
theorem put_lt (h : (decide (((k : Nat) : Int) < ((xs.length : Nat) : Int)) && decide (cellOrd (List.getD xs k default) x < 0)) = true) : k < xs.length := by
  have := of_decide_eq_true (Bool.and_eq_true _ _ ▸ h).1
  omega
theorem put_step (hI : (xs.take k).all (putLt x) = true) (h : (decide (((k : Nat) : Int) < ((xs.length : Nat) : Int)) && decide (cellOrd (List.getD xs k default) x < 0)) = true) : (xs.take (k + 1)).all (putLt x) = true := by
  have hk := put_lt h
  refine all_step hI hk ?_
  have := (Bool.and_eq_true _ _ ▸ h).2
  rw [getD_at hk] at this
  exact this
theorem put_at (hI : (xs.take k).all (putLt x) = true) (hk : k ≤ xs.length) (h : (decide (((k : Nat) : Int) < ((xs.length : Nat) : Int)) && decide (cellOrd (List.getD xs k default) x < 0)) = false) : putAt xs x = k := by
  have hlt : ∀ j, j < k → ∀ hj : j < xs.length, putLt x xs[j] = true := fun j h1 hj => List.all_eq_true.1 hI _ (List.mem_take_iff_getElem.2 ⟨j, by omega, rfl⟩)
  unfold putAt
  by_cases hkl : k < xs.length
  · rw [List.findIdx_eq hkl]
    refine ⟨?_, fun j hj => by rw [hlt j hj (by omega)]; rfl⟩
    simp only [show decide (((k : Nat) : Int) < ((xs.length : Nat) : Int)) = true from decide_eq_true (by omega), Bool.true_and] at h
    rw [getD_at hkl] at h
    show (!(decide (cellOrd xs[k] x < 0))) = true
    rw [h]; rfl
  · obtain rfl : k = xs.length := by omega
    rw [List.findIdx_eq_length_of_false]
    intro y hy
    obtain ⟨j, hj, rfl⟩ := List.getElem_of_mem hy
    rw [hlt j hj hj]; rfl
theorem putM_no (hn : decide (x ∈ xs) = false) (hI : (xs.take k).all (putLt x) = true) (hk : k ≤ xs.length) (h : (decide (((k : Nat) : Int) < ((xs.length : Nat) : Int)) && decide (cellOrd (List.getD xs k default) x < 0)) = false) : putM xs x = insM xs k x := by
  rw [putM, if_neg (of_decide_eq_false hn), put_at hI hk h]
end
theorem putM_len (xs : List Cell) (x : Cell) : (putM xs x).length ≤ xs.length + 1 := by
  unfold putM
  split
  · omega
  · simp [insM]; omega
def betterM (xs : List Cell) (x : Cell) : List Cell × Bool :=
  if ((leastM xs x.op x.epoch x.key).2 && decide ((leastM xs x.op x.epoch x.key).1 ≤ x.val)) = true then (xs, false) else (putM (xs.filter (fun y => !(slot x y))) x, true)
def recallM (kind : Int) (xs : List Cell) (x : Cell) : List Cell × Bool :=
  if (kind == 5) = true ∨ (kind == 8) = true then betterM xs x else if (kind == 6) = true then (putM xs x, !decide (x ∈ xs)) else (xs, true)
section
variable {kind : Int} {xs : List Cell} {x y : Cell}
theorem betterM_yes (h : ((leastM xs x.op x.epoch x.key).2 && decide ((leastM xs x.op x.epoch x.key).1 ≤ x.val)) = true) : betterM xs x = (xs, false) := by rw [betterM, if_pos h]
theorem betterM_no (h : ((leastM xs x.op x.epoch x.key).2 && decide ((leastM xs x.op x.epoch x.key).1 ≤ x.val)) = false) : betterM xs x = (putM (xs.filter (fun y => !(slot x y))) x, true) := by rw [betterM, if_neg (by rw [h]; simp)]
theorem recallM_b (h : (kind == 5) = true ∨ (kind == 8) = true) : recallM kind xs x = betterM xs x := by rw [recallM, if_pos h]
theorem six_not (h : (kind == 6) = true) : ¬ ((kind == 5) = true ∨ (kind == 8) = true) := by
  simp only [beq_iff_eq] at *; omega
theorem recallM_n (h : (kind == 6) = true) : recallM kind xs x = (putM xs x, !decide (x ∈ xs)) := by rw [recallM, if_neg (six_not h), if_pos h]
theorem recallM_h (h : (kind == 6) = true) (hm : decide (x ∈ xs) = true) : recallM kind xs x = (xs, false) := by rw [recallM_n h, putM_yes hm, hm]; rfl
theorem recallM_i (h : (kind == 6) = true) (hm : decide (x ∈ xs) = false) : recallM kind xs x = (putM xs x, true) := by rw [recallM_n h, hm]; rfl
theorem recallM_o (h5 : (kind == 5) = false) (h8 : (kind == 8) = false) (h6 : (kind == 6) = false) : recallM kind xs x = (xs, true) := by
  rw [recallM, if_neg (by simp [h5, h8]), if_neg (by simp [h6])]
theorem betterM_len : (betterM xs x).1.length ≤ xs.length + 1 := by
  unfold betterM
  split
  · simp
  · exact Nat.le_trans (putM_len _ _) (by have := List.length_filter_le (fun y => !(slot x y)) xs; omega)
theorem recallM_len (kind : Int) (xs : List Cell) (x : Cell) : (recallM kind xs x).1.length ≤ xs.length + 1 := by
  unfold recallM
  split
  · exact betterM_len
  · split
    · exact putM_len _ _
    · simp
theorem ns_eq : (((y.op != x.op) || (y.epoch != x.epoch)) || (y.key != x.key)) = !(slot x y) := by
  unfold slot
  rw [Bool.eq_iff_iff]
  simp [bne, Bool.not_and]
  constructor <;> intro h <;> omega
theorem ns_yes (h : (((y.op != x.op) || (y.epoch != x.epoch)) || (y.key != x.key)) = true) : (fun y => !(slot x y)) y = true := by rw [ns_eq] at h; exact h
theorem ns_no (h : (((y.op != x.op) || (y.epoch != x.epoch)) || (y.key != x.key)) = false) : (fun y => !(slot x y)) y = false := by rw [ns_eq] at h; exact h
end
/-! ### what an operator makes of a key and a value -/
def changedM (x : Node) (a b : Int) : Int × Int × Bool :=
  if (!(nodeOk x) || !(win a 0 99 && win b 0 999)) = true then (a, b, false)
  else if (x.kind == 2) = true then (a, (if IntKind.i64.wrap (b + x.a) < 999 then IntKind.i64.wrap (b + x.a) else 999), true)
  else if (x.kind == 4) = true then (Int.tmod (IntKind.i64.wrap (a + x.a)) 100, b, true)
  else if (x.kind == 3) = true then (a, b, Int.tmod a x.a == x.b)
  else (a, b, x.kind != 8)
section
variable {x : Node} {a b : Int}
theorem ch_0 (h : (!(nodeOk x) || !(win a 0 99 && win b 0 999)) = true) : changedM x a b = (a, b, false) := by rw [changedM, if_pos h]
theorem nof {p : Bool} (h : p = false) : ¬ p = true := by rw [h]; simp
theorem ch_2 (h : (!(nodeOk x) || !(win a 0 99 && win b 0 999)) = false) (h2 : (x.kind == 2) = true) : changedM x a b = (a, (if IntKind.i64.wrap (b + x.a) < 999 then IntKind.i64.wrap (b + x.a) else 999), true) := by rw [changedM, if_neg (nof h), if_pos h2]
theorem kind_n {n m : Int} (h : (x.kind == n) = true) (hn : n ≠ m) : ¬ (x.kind == m) = true := by simp only [beq_iff_eq] at *; omega
theorem ch_4 (h : (!(nodeOk x) || !(win a 0 99 && win b 0 999)) = false) (h4 : (x.kind == 4) = true) : changedM x a b = (Int.tmod (IntKind.i64.wrap (a + x.a)) 100, b, true) := by
  rw [changedM, if_neg (nof h), if_neg (kind_n h4 (by decide)), if_pos h4]
theorem ch_3 (h : (!(nodeOk x) || !(win a 0 99 && win b 0 999)) = false) (h3 : (x.kind == 3) = true) : changedM x a b = (a, b, Int.tmod a x.a == x.b) := by
  rw [changedM, if_neg (nof h), if_neg (kind_n h3 (by decide)), if_neg (kind_n h3 (by decide)), if_pos h3]
theorem ch_o (h : (!(nodeOk x) || !(win a 0 99 && win b 0 999)) = false) (h2 : (x.kind == 2) = false) (h4 : (x.kind == 4) = false) (h3 : (x.kind == 3) = false) : changedM x a b = (a, b, x.kind != 8) := by
  rw [changedM, if_neg (nof h), if_neg (nof h2), if_neg (nof h4), if_neg (nof h3)]
theorem ch_s (h : ((!(nodeOk x) || !(win a 0 99)) || !(win b 0 999)) = false) : (!(nodeOk x) || !(win a 0 99 && win b 0 999)) = false := by
  revert h; cases nodeOk x <;> cases win a 0 99 <;> cases win b 0 999 <;> simp
theorem ch_st (h : ((!(nodeOk x) || !(win a 0 99)) || !(win b 0 999)) = true) : (!(nodeOk x) || !(win a 0 99 && win b 0 999)) = true := by
  revert h; cases nodeOk x <;> cases win a 0 99 <;> cases win b 0 999 <;> simp
theorem ch_ok (h : (!(nodeOk x) || !(win a 0 99 && win b 0 999)) = false) : nodeOk x = true := by
  simpa using (Bool.or_eq_false_iff.1 h).1
theorem node_a3 (h : nodeOk x = true) (h3 : (x.kind == 3) = true) : 1 ≤ x.a ∧ x.a ≤ 10 := by
  simp only [nodeOk, Bool.and_eq_true] at h
  have := h.1.1
  rw [node_3 h3, Bool.and_eq_true] at this
  exact win_iff.1 this.1
theorem min_999 {n : Int} : (if n < 999 then n else 999) = (if 999 < n then 999 else n) := by split <;> split <;> omega
end
def impBad (g : Graph) (x : Cell) : Bool := ((!(graphOk g) || !(isNodeM g x.op)) || !(win x.epoch 0 3)) || !(win x.key 0 99 && win x.val 0 999)
def impCh (g : Graph) (x : Cell) : Int × Int × Bool := changedM (List.getD g.nodes (Int.toNat x.op) default) x.key x.val
def impTo (g : Graph) (x : Cell) (k : Nat) : List Cell := ((List.getD g.nodes (Int.toNat x.op) default).outs.take k).map fun n => ⟨n, x.epoch, (impCh g x).1, (impCh g x).2.1⟩
def improveM (g : Graph) (best : List Cell) (x : Cell) : List Cell × List Cell :=
  if impBad g x = true then (best, []) else if (!((betterM best x).2) || !((impCh g x).2.2)) = true then ((betterM best x).1, []) else ((betterM best x).1, impTo g x (List.getD g.nodes (Int.toNat x.op) default).outs.length)
section
variable {g : Graph} {xs : List Cell} {x : Cell} {k : Nat}
theorem imp_of (h : impBad g x = false) : graphOk g = true ∧ isNodeM g x.op = true := by
  simp only [impBad, Bool.or_eq_false_iff, Bool.not_eq_false'] at h
  exact h.1.1
theorem imp_0 (h : impBad g x = true) : improveM g xs x = (xs, []) := by rw [improveM, if_pos h]
theorem imp_1 (h : impBad g x = false) (hop : 0 ≤ x.op ∧ x.op < ((g.nodes.length : Nat) : Int) ∧ Int.toNat x.op < g.nodes.length) (hc : (!((betterM xs x).2) || !((changedM (g.nodes[Int.toNat x.op]'hop.2.2) x.key x.val).2.2)) = true) : improveM g xs x = ((betterM xs x).1, []) := by
  rw [improveM, if_neg (nof h), if_pos (by rw [impCh, getD_at hop.2.2]; exact hc)]
theorem imp_2 (h : impBad g x = false) (hop : 0 ≤ x.op ∧ x.op < ((g.nodes.length : Nat) : Int) ∧ Int.toNat x.op < g.nodes.length) (hc : (!((betterM xs x).2) || !((changedM (g.nodes[Int.toNat x.op]'hop.2.2) x.key x.val).2.2)) = false) : improveM g xs x = ((betterM xs x).1, impTo g x (List.getD g.nodes (Int.toNat x.op) default).outs.length) := by
  rw [improveM, if_neg (nof h), if_neg (nof (by rw [impCh, getD_at hop.2.2]; exact hc))]
theorem imp_step (hi : Int.toNat x.op < g.nodes.length) (hk : k < (g.nodes[Int.toNat x.op]).outs.length) : (impTo g x k).flatMap Enc.enc ++ Enc.enc (⟨(g.nodes[Int.toNat x.op]).outs[k], x.epoch, (changedM g.nodes[Int.toNat x.op] x.key x.val).1, (changedM g.nodes[Int.toNat x.op] x.key x.val).2.1⟩ : Cell) = (impTo g x (k + 1)).flatMap Enc.enc := by
  simp only [impTo, impCh, getD_at hi]
  rw [List.take_succ_eq_append_getElem hk, List.map_append, List.flatMap_append]; simp
theorem impTo_len (g : Graph) (x : Cell) (k : Nat) : (impTo g x k).length ≤ k := by simp only [impTo, List.length_map, List.length_take]; omega
theorem impTo_all (h : (List.getD g.nodes (Int.toNat x.op) default).outs.length ≤ k) : impTo g x k = impTo g x (List.getD g.nodes (Int.toNat x.op) default).outs.length := by
  simp only [impTo, List.take_length, List.take_of_length_le h]
theorem imp_sp : ((((!((nodeOf g x.op).2) || !(graphOk g)) || !(win x.epoch 0 3)) || !(win x.key 0 99)) || !(win x.val 0 999)) = impBad g x := by
  rw [nodeOf_two, impBad]
  cases graphOk g <;> cases isNodeM g x.op <;> cases win x.epoch 0 3 <;> cases win x.key 0 99 <;> cases win x.val 0 999 <;> rfl
theorem imp_st (h : ((((!((nodeOf g x.op).2) || !(graphOk g)) || !(win x.epoch 0 3)) || !(win x.key 0 99)) || !(win x.val 0 999)) = true) : impBad g x = true := by rw [imp_sp] at h; exact h
theorem imp_sf (h : ((((!((nodeOf g x.op).2) || !(graphOk g)) || !(win x.epoch 0 3)) || !(win x.key 0 99)) || !(win x.val 0 999)) = false) : impBad g x = false := by rw [imp_sp] at h; exact h
theorem improve_len1 : (improveM g xs x).1.length ≤ xs.length + 1 := by
  unfold improveM
  split
  · simp
  · split <;> exact betterM_len
theorem improve_len2 : (improveM g xs x).2.length ≤ 2 := by
  unfold improveM
  split
  · simp
  · rename_i h
    split
    · simp
    · have hq := imp_of (Bool.eq_false_iff.2 h)
      have := outs_two (i := Int.toNat x.op) hq.1 (isNode_of hq.2).2.2
      exact Nat.le_trans (impTo_len _ _ _) this
end
section
variable {g : Graph} {xs : List Cell} {x : Cell} {k : Nat}
theorem nodeOf_1 {op : Int} (h : isNodeM g op = true) : (nodeOf g op).1 = List.getD g.nodes (Int.toNat op) default := by rw [nodeOf, if_pos h]
theorem better_no (h : (betterM xs x).2 = false) : (betterM xs x).1 = xs := by
  unfold betterM at *
  split at h
  · rename_i hq; rw [if_pos hq]
  · cases h
theorem five (xs : List Cell) (x : Cell) : recallM 5 xs x = betterM xs x := recallM_b (.inl rfl)
theorem imp_n (h : impBad g x = false) (hc : (!((recallM 5 xs x).2)) = true) : improveM g xs x = (xs, []) := by
  rw [five] at hc
  have hc' : (betterM xs x).2 = false := by simpa using hc
  rw [improveM, if_neg (nof h), if_pos (by rw [hc']; rfl), better_no hc']
theorem imp_lt {n : Nat} {p : Bool} (h : (decide (((k : Nat) : Int) < ((n : Nat) : Int)) && p) = true) : k < n ∧ p = true := by
  simp only [Bool.and_eq_true, decide_eq_true_eq] at h
  exact ⟨by omega, h.2⟩
theorem imp_e (h : impBad g x = false) (hc : (!((recallM 5 xs x).2)) = false) (hn : (nodeOf g x.op).1 = List.getD g.nodes (Int.toNat x.op) default) (hk : k ≤ ((nodeOf g x.op).1).outs.length) (hz : (changedM ((nodeOf g x.op).1) x.key x.val).2.2 = false → k = 0)
    (hl : (decide (((k : Nat) : Int) < ((((nodeOf g x.op).1).outs.length : Nat) : Int)) && (changedM ((nodeOf g x.op).1) x.key x.val).2.2) = false) : improveM g xs x = ((recallM 5 xs x).1, impTo g x k) := by
  rw [five] at hc ⊢
  have hc' : (betterM xs x).2 = true := by simpa using hc
  rw [hn] at hk hz hl
  rw [improveM, if_neg (nof h)]
  cases hgo : (changedM (List.getD g.nodes (Int.toNat x.op) default) x.key x.val).2.2 with
  | false =>
    rw [if_pos (by rw [impCh, hgo]; simp), hz hgo]; rfl
  | true =>
    rw [if_neg (by rw [impCh, hgo, hc']; simp)]
    rw [hgo, Bool.and_true, decide_eq_false_iff_not] at hl
    rw [show k = (List.getD g.nodes (Int.toNat x.op) default).outs.length from by omega]
theorem imp_stepS (hn : (nodeOf g x.op).1 = List.getD g.nodes (Int.toNat x.op) default) (hk : k < ((nodeOf g x.op).1).outs.length) : (impTo g x k).flatMap Enc.enc ++ Enc.enc (⟨((nodeOf g x.op).1).outs[k], x.epoch, (changedM ((nodeOf g x.op).1) x.key x.val).1, (changedM ((nodeOf g x.op).1) x.key x.val).2.1⟩ : Cell) = (impTo g x (k + 1)).flatMap Enc.enc := by
  simp only [impTo, impCh, ← hn]
  rw [List.take_succ_eq_append_getElem hk, List.map_append, List.flatMap_append]; simp
theorem not_t {p : Bool} (h : (!p) = true) : p = false := by simpa using h
theorem not_f {p : Bool} (h : (!p) = false) : p = true := by simpa using h
def icP (g : Graph) (xs : List Cell) (x : Cell) : Bool := ((improveM g [] x).2).all (nwP xs)
def isClosedM (g : Graph) (xs : List Cell) : Bool := graphOk g && xs.all (icP g xs)
theorem ic_0 (h : (!(graphOk g)) = true) : Value.bool false = .bool (isClosedM g xs) := by
  have : graphOk g = false := by simpa using h
  rw [isClosedM, this]; rfl
theorem ic_bad (h : graphOk g = false) : icP g xs x = true := by
  have : impBad g x = true := by simp [impBad, h]
  rw [icP, imp_0 this]; rfl
theorem ic_1 (h1 : k < xs.length) (h : icP g xs xs[k] = false) : Value.bool false = .bool (isClosedM g xs) := bf fun hq => by
  simp only [isClosedM, Bool.and_eq_true] at hq
  have := List.all_eq_true.1 hq.2 _ (List.getElem_mem h1)
  rw [h] at this; cases this
theorem ic_2 (h : (!(graphOk g)) = false) (ha : xs.all (icP g xs) = true) : Value.bool true = .bool (isClosedM g xs) := by
  have : graphOk g = true := by simpa using h
  rw [isClosedM, this, ha]; rfl
theorem ic_3 (ha : xs.all (icP g xs) = true) : Value.bool (graphOk g) = .bool (isClosedM g xs) := by rw [isClosedM, ha, Bool.and_true]
end
/-! ### a staged record is taken -/
def unstM (x : Worker) : Worker × Record × Bool := if x.staged.length = 0 then (x, ⟨0, ⟨0, 0⟩, 0, 0⟩, false) else (⟨x.queue, x.staged.drop 1, x.inputs, x.cells, x.sums, x.black, x.caps, x.dones⟩, List.getD x.staged 0 default, true)
theorem unst_no {x : Worker} (h : (((x.staged.length : Nat) : Int) == 0) = true) : unstM x = (x, ⟨0, ⟨0, 0⟩, 0, 0⟩, false) := by
  have h0 : x.staged.length = 0 := by have := eq_of_beq h; omega
  rw [unstM, if_pos h0]
theorem unst_lt {x : Worker} (h : (((x.staged.length : Nat) : Int) == 0) = false) : 0 < x.staged.length := by
  have h0 : ((x.staged.length : Nat) : Int) ≠ 0 := fun e => by rw [e] at h; cases h
  omega
theorem unst_yes {x : Worker} (h : 0 < x.staged.length) : unstM x = (⟨x.queue, x.staged.drop 1, x.inputs, x.cells, x.sums, x.black, x.caps, x.dones⟩, x.staged[0], true) := by
  rw [unstM, if_neg (by omega), getD_at h]
theorem cnt_unst (x : Worker) : cntWorker (unstM x).1 ≤ cntWorker x := by
  unfold unstM
  split
  · exact Nat.le_refl _
  · simp [cntWorker]
/-! ### an input is taken -/
def takeBad (g : Graph) (x : Worker) : Bool := ((((!(graphOk g) || !(workerOk g x)) || (decide (0 < ((x.staged.length : Nat) : Int)))) || (decide (0 < ((x.queue.length : Nat) : Int)))) || (((x.inputs.length : Nat) : Int) == 0))
def takeM (g : Graph) (x : Worker) : Worker × Bool := if takeBad g x = true then (x, false) else (⟨x.queue ++ [List.getD x.inputs 0 default], x.staged, x.inputs.drop 1, x.cells, x.sums, x.black, x.caps, x.dones⟩, true)
section
variable {g : Graph} {x : Worker}
theorem take_no (h : takeBad g x = true) : takeM g x = (x, false) := by rw [takeM, if_pos h]
theorem take_lt (h : takeBad g x = false) : 0 < x.inputs.length := by
  have h1 := (Bool.or_eq_false_iff.1 h).2
  have h0 : ((x.inputs.length : Nat) : Int) ≠ 0 := fun e => by rw [e] at h1; cases h1
  omega
theorem take_yes (h : takeBad g x = false) (hl : 0 < x.inputs.length) : takeM g x = (⟨x.queue ++ [x.inputs[0]], x.staged, x.inputs.drop 1, x.cells, x.sums, x.black, x.caps, x.dones⟩, true) := by
  rw [takeM, if_neg (nof h), getD_at hl]
theorem cnt_take : cntWorker (takeM g x).1 ≤ cntWorker x := by
  unfold takeM
  split
  · exact Nat.le_refl _
  · rename_i h
    have := take_lt (Bool.eq_false_iff.2 h)
    simp [cntWorker]; omega
end
/-! ### a record is worked on -/
def stBad (g : Graph) (r : Record) : Bool := (!(graphOk g) || !(recordOk r)) || !(isNodeM g r.op)
def stNode (g : Graph) (r : Record) : Node := List.getD g.nodes (Int.toNat r.op) default
def stCh (g : Graph) (r : Record) : Int × Int × Bool := changedM (stNode g r) r.key r.val
def stRec (g : Graph) (cs : List Cell) (r : Record) : List Cell × Bool := recallM (stNode g r).kind cs ⟨r.op, r.stamp.epoch, r.key, r.val⟩
def stTo (g : Graph) (r : Record) (s : Stamp) (k : Nat) : List Record := ((stNode g r).outs.take k).map fun n => ⟨n, s, (stCh g r).1, (stCh g r).2.1⟩
def stStamp (g : Graph) (r : Record) : Stamp × Bool := if ((stNode g r).kind == 7) = true then nextT r.stamp else (r.stamp, true)
def stepM (g : Graph) (cs : List Cell) (r : Record) : List Cell × List Record × Bool :=
  if stBad g r = true then (cs, [], false)
  else if (!((stCh g r).2.2) && ((stNode g r).kind != 8)) = true then (cs, [], true)
  else if (!((stRec g cs r).2)) = true then ((stRec g cs r).1, [], true)
  else ((stRec g cs r).1, if (stStamp g r).2 = true then stTo g r (stStamp g r).1 (stNode g r).outs.length else [], true)
def stOut (g : Graph) (r : Record) (k : Nat) : List Record := if (stStamp g r).2 = true then stTo g r (stStamp g r).1 k else []
section
variable {g : Graph} {cs : List Cell} {r : Record} {x : Node} {k : Nat}
theorem st_of (h : stBad g r = false) : graphOk g = true ∧ isNodeM g r.op = true := by
  simp only [stBad, Bool.or_eq_false_iff, Bool.not_eq_false'] at h
  exact ⟨h.1.1, h.2⟩
theorem st_0 (h : stBad g r = true) : stepM g cs r = (cs, [], false) := by rw [stepM, if_pos h]
theorem st_1 (h : stBad g r = false) (hx : x = stNode g r) (hc : (!((changedM x r.key r.val).2.2) && (x.kind != 8)) = true) : stepM g cs r = (cs, [], true) := by
  subst hx
  have hc' : (!((stCh g r).2.2) && ((stNode g r).kind != 8)) = true := hc
  rw [stepM, if_neg (nof h), if_pos hc']
theorem st_2 (h : stBad g r = false) (hx : x = stNode g r) (hc : (!((changedM x r.key r.val).2.2) && (x.kind != 8)) = false) (hq : (!((recallM x.kind cs ⟨r.op, r.stamp.epoch, r.key, r.val⟩).2)) = true) : stepM g cs r = ((recallM x.kind cs ⟨r.op, r.stamp.epoch, r.key, r.val⟩).1, [], true) := by
  subst hx
  have hc' : (!((stCh g r).2.2) && ((stNode g r).kind != 8)) = false := hc
  have hq' : (!((stRec g cs r).2)) = true := hq
  rw [stepM, if_neg (nof h), if_neg (nof hc'), if_pos hq']; rfl
theorem st_3 (h : stBad g r = false) (hx : x = stNode g r) (hc : (!((changedM x r.key r.val).2.2) && (x.kind != 8)) = false) (hq : (!((recallM x.kind cs ⟨r.op, r.stamp.epoch, r.key, r.val⟩).2)) = false) : stepM g cs r = ((recallM x.kind cs ⟨r.op, r.stamp.epoch, r.key, r.val⟩).1, stOut g r x.outs.length, true) := by
  subst hx
  have hc' : (!((stCh g r).2.2) && ((stNode g r).kind != 8)) = false := hc
  have hq' : (!((stRec g cs r).2)) = false := hq
  rw [stepM, if_neg (nof h), if_neg (nof hc'), if_neg (nof hq')]; rfl
theorem stamp_7 (hx : x = stNode g r) (h : (x.kind == 7) = true) : stStamp g r = nextT r.stamp := by subst hx; rw [stStamp, if_pos h]
theorem stamp_o (hx : x = stNode g r) (h : (x.kind == 7) = false) : stStamp g r = (r.stamp, true) := by subst hx; rw [stStamp, if_neg (nof h)]
theorem out_zero : (stOut g r 0).flatMap Enc.enc = [] := by unfold stOut; split <;> simp [stTo]
theorem out_step {s : Stamp} (hs : (stStamp g r).1 = s) (hok : (stStamp g r).2 = true) (hx : x = stNode g r) (hk : k < x.outs.length) : (stOut g r k).flatMap Enc.enc ++ Enc.enc (⟨x.outs[k], s, (changedM x r.key r.val).1, (changedM x r.key r.val).2.1⟩ : Record) = (stOut g r (k + 1)).flatMap Enc.enc := by
  subst hx hs
  simp only [stOut, if_pos hok, stTo, stCh]
  rw [List.take_succ_eq_append_getElem hk, List.map_append, List.flatMap_append]; simp
theorem out_skip (hok : (stStamp g r).2 = false) : (stOut g r k).flatMap Enc.enc = (stOut g r (k + 1)).flatMap Enc.enc := by
  unfold stOut; rw [if_neg (nof hok), if_neg (nof hok)]
theorem out_no (hok : (stStamp g r).2 = false) : stOut g r k = [] := by unfold stOut; rw [if_neg (nof hok)]
theorem out_len (g : Graph) (r : Record) (k : Nat) : (stOut g r k).length ≤ k := by
  unfold stOut
  split
  · simp only [stTo, List.length_map, List.length_take]; omega
  · simp
theorem rec_no (h : ((x.kind == 5) || (x.kind == 6) || (x.kind == 8)) = false) (c : Cell) : recallM x.kind cs c = (cs, true) := by
  simp only [Bool.or_eq_false_iff] at h
  exact recallM_o h.1.1 h.2 h.1.2
theorem step_len1 : (stepM g cs r).1.length ≤ cs.length + 1 := by
  unfold stepM
  split
  · simp
  · split
    · simp
    · split <;> exact recallM_len _ _ _
theorem step_len2 : (stepM g cs r).2.1.length ≤ 2 := by
  unfold stepM
  split
  · simp
  · rename_i h
    have hq := st_of (Bool.eq_false_iff.2 h)
    have := outs_two (i := Int.toNat r.op) hq.1 (isNode_of hq.2).2.2
    split
    · simp
    · split
      · simp
      · exact Nat.le_trans (out_len g r _) this
end
section
variable {g : Graph} {cs : List Cell} {r : Record}
theorem st_sp : ((!((nodeOf g r.op).2) || !(graphOk g)) || !(recordOk r)) = stBad g r := by
  rw [nodeOf_two, stBad]
  cases graphOk g <;> cases isNodeM g r.op <;> cases recordOk r <;> rfl
theorem st_spt (h : ((!((nodeOf g r.op).2) || !(graphOk g)) || !(recordOk r)) = true) : stBad g r = true := by rw [st_sp] at h; exact h
theorem st_spf (h : ((!((nodeOf g r.op).2) || !(graphOk g)) || !(recordOk r)) = false) : stBad g r = false := by rw [st_sp] at h; exact h
end
/-! ### a worker takes a step -/
def workBad (g : Graph) (x : Worker) : Bool := (((!(graphOk g) || !(workerOk g x)) || (decide (0 < ((x.staged.length : Nat) : Int)))) || (((x.queue.length : Nat) : Int) == 0))
def workR (x : Worker) : Record := List.getD x.queue 0 default
def workM (g : Graph) (x : Worker) : Worker × Bool := if workBad g x = true then (x, false) else
  (⟨x.queue.drop 1, (stepM g x.cells (workR x)).2.1, x.inputs, (stepM g x.cells (workR x)).1, x.sums, x.black, if cappedM g (workR x) = true then x.caps.set (Int.toNat (workR x).stamp.epoch) true else x.caps, x.dones⟩, true)
section
variable {g : Graph} {x : Worker}
theorem work_no (h : workBad g x = true) : workM g x = (x, false) := by rw [workM, if_pos h]
theorem work_lt (h : workBad g x = false) : 0 < x.queue.length := by
  have h1 := (Bool.or_eq_false_iff.1 h).2
  have h0 : ((x.queue.length : Nat) : Int) ≠ 0 := fun e => by rw [e] at h1; cases h1
  omega
theorem work_c (h : workBad g x = false) (hl : 0 < x.queue.length) (hc : cappedM g x.queue[0] = true) : workM g x = (⟨x.queue.drop 1, (stepM g x.cells x.queue[0]).2.1, x.inputs, (stepM g x.cells x.queue[0]).1, x.sums, x.black, x.caps.set (Int.toNat x.queue[0].stamp.epoch) true, x.dones⟩, true) := by
  have hr : workR x = x.queue[0] := getD_at hl
  rw [workM, if_neg (nof h), hr, if_pos hc]
theorem work_n (h : workBad g x = false) (hl : 0 < x.queue.length) (hc : cappedM g x.queue[0] = false) : workM g x = (⟨x.queue.drop 1, (stepM g x.cells x.queue[0]).2.1, x.inputs, (stepM g x.cells x.queue[0]).1, x.sums, x.black, x.caps, x.dones⟩, true) := by
  have hr : workR x = x.queue[0] := getD_at hl
  rw [workM, if_neg (nof h), hr, if_neg (nof hc)]
theorem work_cap (h : workBad g x = false) (hl : 0 < x.queue.length) (hc : cappedM g x.queue[0] = true) : 0 ≤ x.queue[0].stamp.epoch ∧ Int.toNat x.queue[0].stamp.epoch < x.caps.length := by
  simp only [workBad, Bool.or_eq_false_iff, Bool.not_eq_false'] at h
  have hw := h.1.1.2
  simp only [workerOk, Bool.and_eq_true, beq_iff_eq] at hw
  have h8 := hw.1.1.2
  simp only [cappedM, Bool.and_eq_true] at hc
  have hr := hc.1.1.1.2
  simp only [recordOk, stampOk, Bool.and_eq_true, win_iff] at hr
  omega
theorem cnt_work : cntWorker (workM g x).1 ≤ cntWorker x + 3 := by
  unfold workM
  split
  · exact Nat.le_add_right _ _
  · have h1 := @step_len1 g x.cells (workR x)
    have h2 := @step_len2 g x.cells (workR x)
    simp only [cntWorker, List.length_drop]
    split <;> simp <;> omega
end
/-! ### steps, one after another -/
def brM (n a b : Int) : Int := if (decide (b < a) || decide (n < a)) = true then a else if b < n then b else n
def allM (g : Graph) : Nat → List Cell → List Record → List Cell × List Record × Nat
  | 0, cs, rs => (cs, rs, 0)
  | m + 1, cs, rs => if rs.length = 0 then (cs, rs, 0) else
    ((allM g m (stepM g cs (List.getD rs 0 default)).1 (rs.drop 1 ++ (stepM g cs (List.getD rs 0 default)).2.1)).1,
     (allM g m (stepM g cs (List.getD rs 0 default)).1 (rs.drop 1 ++ (stepM g cs (List.getD rs 0 default)).2.1)).2.1,
     (allM g m (stepM g cs (List.getD rs 0 default)).1 (rs.drop 1 ++ (stepM g cs (List.getD rs 0 default)).2.1)).2.2 + 1)
def stepAllM (g : Graph) (cs : List Cell) (rs : List Record) (most : Int) : List Cell × List Record × Nat := allM g (Int.toNat (brM most 0 100000)) cs rs
theorem br_rg (n : Int) : 0 ≤ brM n 0 100000 ∧ brM n 0 100000 ≤ 100000 := by
  unfold brM
  split
  · omega
  · rename_i h
    simp only [Bool.or_eq_true, decide_eq_true_eq] at h
    split <;> omega
section
variable {g : Graph} {cs cs0 : List Cell} {rs rs0 : List Record} {r : Record} {k m : Nat}
theorem allM_s (h : rs.length ≠ 0) (hr : List.getD rs 0 default = r) : allM g (m + 1) cs rs = ((allM g m (stepM g cs r).1 (rs.drop 1 ++ (stepM g cs r).2.1)).1, (allM g m (stepM g cs r).1 (rs.drop 1 ++ (stepM g cs r).2.1)).2.1, (allM g m (stepM g cs r).1 (rs.drop 1 ++ (stepM g cs r).2.1)).2.2 + 1) := by
  subst hr
  rw [allM, if_neg h]
theorem all_next (hI : allM g m cs0 rs0 = ((allM g (m - k) cs rs).1, (allM g (m - k) cs rs).2.1, (allM g (m - k) cs rs).2.2 + k)) (hk : k < m) (hl : 0 < rs.length) (hr : List.getD rs 0 default = r) :
    allM g m cs0 rs0 = ((allM g (m - (k + 1)) (stepM g cs r).1 (rs.drop 1 ++ (stepM g cs r).2.1)).1, (allM g (m - (k + 1)) (stepM g cs r).1 (rs.drop 1 ++ (stepM g cs r).2.1)).2.1, (allM g (m - (k + 1)) (stepM g cs r).1 (rs.drop 1 ++ (stepM g cs r).2.1)).2.2 + (k + 1)) := by
  rw [hI, show m - k = (m - (k + 1)) + 1 from by omega, allM_s (by omega) hr]
  simp only [Prod.mk.injEq, true_and]
  omega
theorem all_end' (hI : allM g m cs0 rs0 = ((allM g (m - k) cs rs).1, (allM g (m - k) cs rs).2.1, (allM g (m - k) cs rs).2.2 + k)) (h : m ≤ k ∨ rs.length = 0) : allM g m cs0 rs0 = (cs, rs, k) := by
  have e : allM g (m - k) cs rs = (cs, rs, 0) := by
    match hq : m - k with
    | 0 => rw [allM]
    | n + 1 => rw [allM, if_pos (by omega)]
  rw [hI, e]; simp
theorem all_len1 : (allM g m cs rs).1.length ≤ cs.length + m := by
  induction m generalizing cs rs with
  | zero => simp [allM]
  | succ m ih =>
    rw [allM]
    split
    · simp only []; omega
    · have h1 := @ih (stepM g cs (List.getD rs 0 default)).1 (rs.drop 1 ++ (stepM g cs (List.getD rs 0 default)).2.1)
      have h2 := @step_len1 g cs (List.getD rs 0 default)
      simp only []; omega
theorem all_len2 : (allM g m cs rs).2.1.length ≤ rs.length + m := by
  induction m generalizing cs rs with
  | zero => simp [allM]
  | succ m ih =>
    rw [allM]
    split
    · simp only []; omega
    · have h1 := @ih (stepM g cs (List.getD rs 0 default)).1 (rs.drop 1 ++ (stepM g cs (List.getD rs 0 default)).2.1)
      have h2 := @step_len2 g cs (List.getD rs 0 default)
      simp only [List.length_append, List.length_drop] at h1 ⊢; omega
end
theorem stepAll_len1 {g : Graph} {cs : List Cell} {rs : List Record} {n : Int} : (stepAllM g cs rs n).1.length ≤ cs.length + 100000 := by
  have h := @all_len1 g cs rs (Int.toNat (brM n 0 100000))
  have := br_rg n
  unfold stepAllM; omega
theorem stepAll_len2 {g : Graph} {cs : List Cell} {rs : List Record} {n : Int} : (stepAllM g cs rs n).2.1.length ≤ rs.length + 100000 := by
  have h := @all_len2 g cs rs (Int.toNat (brM n 0 100000))
  have := br_rg n
  unfold stepAllM; omega
theorem and_tt {p q : Prop} [Decidable p] [Decidable q] (h : (decide p && decide q) = true) : p ∧ q := by simpa using h
theorem and_ff {p q : Prop} [Decidable p] [Decidable q] (h : (decide p && decide q) = false) : ¬p ∨ ¬q := by
  simp only [Bool.and_eq_false_iff, decide_eq_false_iff_not] at h; exact h
/-! ### the fixed point -/
def slotM (op e k : Int) (y : Cell) : Bool := slot y ⟨op, e, k, 0⟩
def psiF (b : List Cell) (c : Nat) : Nat := if (leastM b ((c / 400 : Nat) : Int) ((c / 100 % 4 : Nat) : Int) ((c % 100 : Nat) : Int)).2 = true then Int.toNat (leastM b ((c / 400 : Nat) : Int) ((c / 100 % 4 : Nat) : Int) ((c % 100 : Nat) : Int)).1 else 1000
def psiS (f : Nat → Nat) : Nat → Nat
  | 0 => 0
  | n + 1 => psiS f n + f n
def psi (b : List Cell) : Nat := psiS (psiF b) 3200
theorem psiS_eq {f f' : Nat → Nat} : ∀ n, (∀ c, c < n → f' c = f c) → psiS f' n = psiS f n
  | 0, _ => rfl
  | n + 1, h => by rw [psiS, psiS, psiS_eq n (fun c hc => h c (by omega)), h n (by omega)]
theorem psiS_lt {f f' : Nat → Nat} {c0 : Nat} (h0 : f' c0 < f c0) (h : ∀ c, c ≠ c0 → f' c = f c) : ∀ n, c0 < n → psiS f' n < psiS f n
  | 0, hn => by omega
  | n + 1, hn => by
    rw [psiS, psiS]
    by_cases e : c0 = n
    · subst e
      rw [psiS_eq c0 (fun c hc => h c (by omega))]; omega
    · have := psiS_lt h0 h n (by omega)
      rw [h n (by omega)]; omega
theorem psiS_const {f : Nat → Nat} {m : Nat} (h : ∀ c, f c = m) : ∀ n, psiS f n = n * m
  | 0 => by simp [psiS]
  | n + 1 => by rw [psiS, psiS_const h n, h, Nat.succ_mul]
theorem psi_nil : psi [] = 3200000 := by
  rw [psi, psiS_const (m := 1000) (fun c => by simp [psiF, leastM, leastGo])]
section
variable {xs : List Cell} {x : Cell} {op e k n : Int} {s : Bool}
theorem leastGo_filter : ∀ (xs : List Cell) (n : Int) (s : Bool), leastGo op e k xs n s = leastGo op e k (xs.filter (slotM op e k)) n s
  | [], _, _ => rfl
  | x :: xs, n, s => by
    rw [leastGo]
    by_cases h : slotM op e k x = true
    · rw [List.filter_cons_of_pos h, leastGo, ← leastGo_filter xs, ← leastGo_filter xs]
    · rw [List.filter_cons_of_neg h, ← leastGo_filter xs]
      have h' : slot x ⟨op, e, k, 0⟩ = false := Bool.eq_false_iff.2 h
      rw [h']; simp
theorem leastM_filter (xs : List Cell) : leastM xs op e k = leastGo op e k (xs.filter (slotM op e k)) 0 false := leastGo_filter xs 0 false
theorem slot_iff {x y : Cell} : slot x y = true ↔ x.op = y.op ∧ x.epoch = y.epoch ∧ x.key = y.key := by
  simp [slot, and_assoc]
theorem better_own (h : (betterM xs x).2 = true) : leastM (betterM xs x).1 x.op x.epoch x.key = (x.val, true) := by
  have hc : ((leastM xs x.op x.epoch x.key).2 && decide ((leastM xs x.op x.epoch x.key).1 ≤ x.val)) = false := by
    cases hq : ((leastM xs x.op x.epoch x.key).2 && decide ((leastM xs x.op x.epoch x.key).1 ≤ x.val))
    · rfl
    · rw [betterM_yes hq] at h; cases h
  rw [betterM_no hc]
  have hx : slot x x = true := slot_iff.2 ⟨rfl, rfl, rfl⟩
  have hn : x ∉ xs.filter (fun y => !(slot x y)) := fun hm => by
    have := (List.mem_filter.1 hm).2
    rw [hx] at this; cases this
  have hz : (xs.filter (fun y => !(slot x y))).filter (slotM x.op x.epoch x.key) = [] := by
    rw [List.filter_filter, List.filter_eq_nil_iff]
    intro y _ hy
    simp only [Bool.and_eq_true, Bool.not_eq_true'] at hy
    have h1 := slot_iff.1 (show slot y ⟨x.op, x.epoch, x.key, 0⟩ = true from hy.1)
    rw [show slot x y = true from slot_iff.2 ⟨h1.1.symm, h1.2.1.symm, h1.2.2.symm⟩] at hy
    cases hy.2
  have hs : slotM x.op x.epoch x.key x = true := slot_iff.2 ⟨rfl, rfl, rfl⟩
  rw [leastM_filter, putM, if_neg hn]
  generalize hl : xs.filter (fun y => !(slot x y)) = l at hz
  have ha : (l.take (putAt l x)).filter (slotM x.op x.epoch x.key) = [] := by
    rw [List.filter_eq_nil_iff] at hz ⊢; exact fun y hy => hz y (List.mem_of_mem_take hy)
  have hb : (l.drop (putAt l x)).filter (slotM x.op x.epoch x.key) = [] := by
    rw [List.filter_eq_nil_iff] at hz ⊢; exact fun y hy => hz y (List.mem_of_mem_drop hy)
  simp only [insM, List.filter_append, List.filter_cons, ha, hb, hs, if_true, List.nil_append]
  have hs' : slot x ⟨x.op, x.epoch, x.key, 0⟩ = true := hs
  simp [leastGo, hs']
theorem better_other (h : ¬ (op = x.op ∧ e = x.epoch ∧ k = x.key)) : leastM (betterM xs x).1 op e k = leastM xs op e k := by
  unfold betterM
  split
  · rfl
  · have hf : (xs.filter (fun y => !(slot x y))).filter (slotM op e k) = xs.filter (slotM op e k) := by
      rw [List.filter_filter]
      refine List.filter_congr fun y _ => ?_
      cases hy : slotM op e k y with
      | false => simp
      | true =>
        have h1 := slot_iff.1 (show slot y ⟨op, e, k, 0⟩ = true from hy)
        have h2 : slot x y = false := Bool.eq_false_iff.2 fun hq => h (by
          have h3 := slot_iff.1 hq
          exact ⟨(h3.1.trans h1.1).symm, (h3.2.1.trans h1.2.1).symm, (h3.2.2.trans h1.2.2).symm⟩)
        rw [h2]; rfl
    have hs : slotM op e k x = false := Bool.eq_false_iff.2 fun hq => by
      have h1 := slot_iff.1 (show slot x ⟨op, e, k, 0⟩ = true from hq)
      exact h ⟨h1.1.symm, h1.2.1.symm, h1.2.2.symm⟩
    rw [leastM_filter, leastM_filter xs]
    congr 1
    unfold putM
    split
    · exact hf
    · rw [← hf]
      generalize xs.filter (fun y => !(slot x y)) = l
      simp only [insM, List.filter_append, List.filter_cons, hs]
      simp only [Bool.false_eq_true, if_false]
      rw [← List.filter_append, List.take_append_drop]
theorem psi_better (h : (betterM xs x).2 = true) (ho : 0 ≤ x.op ∧ x.op < 8) (he : 0 ≤ x.epoch ∧ x.epoch ≤ 3) (hk : 0 ≤ x.key ∧ x.key ≤ 99) (hv : 0 ≤ x.val ∧ x.val ≤ 999) : psi (betterM xs x).1 < psi xs := by
  have hc : ((leastM xs x.op x.epoch x.key).2 && decide ((leastM xs x.op x.epoch x.key).1 ≤ x.val)) = false := by
    cases hq : ((leastM xs x.op x.epoch x.key).2 && decide ((leastM xs x.op x.epoch x.key).1 ≤ x.val))
    · rfl
    · rw [betterM_yes hq] at h; cases h
  refine psiS_lt (c0 := Int.toNat (x.op * 400 + x.epoch * 100 + x.key)) ?_ (fun c hn => ?_) 3200 (by omega)
  · have e1 : ((Int.toNat (x.op * 400 + x.epoch * 100 + x.key) / 400 : Nat) : Int) = x.op := by omega
    have e2 : ((Int.toNat (x.op * 400 + x.epoch * 100 + x.key) / 100 % 4 : Nat) : Int) = x.epoch := by omega
    have e3 : ((Int.toNat (x.op * 400 + x.epoch * 100 + x.key) % 100 : Nat) : Int) = x.key := by omega
    unfold psiF
    rw [e1, e2, e3, better_own h, if_pos rfl]
    split
    · rename_i hf
      rw [hf, Bool.true_and, decide_eq_false_iff_not] at hc
      simp only []; omega
    · simp only []; omega
  · have hne : ¬ (((c / 400 : Nat) : Int) = x.op ∧ ((c / 100 % 4 : Nat) : Int) = x.epoch ∧ ((c % 100 : Nat) : Int) = x.key) := fun hq => hn (by omega)
    unfold psiF
    rw [better_other hne]
end
theorem fix_step (g : Graph) (b : List Cell) (x : Cell) : (psi (improveM g b x).1 + 1 ≤ psi b ∧ (improveM g b x).1.length ≤ b.length + 1 ∧ (improveM g b x).2.length ≤ 2) ∨ (improveM g b x = (b, [])) := by
  have h1 := @improve_len1 g b x
  have h2 := @improve_len2 g b x
  by_cases hb : impBad g x = true
  · exact .inr (imp_0 hb)
  · have hq := imp_of (Bool.eq_false_iff.2 hb)
    have hop := isNode_of hq.2
    have hl := gok_len hq.1
    have hb' := Bool.eq_false_iff.2 hb
    simp only [impBad, win, Bool.or_eq_false_iff, Bool.not_eq_false', Bool.and_eq_true, decide_eq_true_eq] at hb'
    by_cases hc : (betterM b x).2 = true
    · refine .inl ⟨?_, h1, h2⟩
      have := psi_better hc (by omega) (by omega) (by omega) (by omega)
      rw [improveM, if_neg hb]
      split <;> exact this
    · have hc' := Bool.eq_false_iff.2 hc
      exact .inr (by rw [improveM, if_neg hb, if_pos (by rw [hc']; rfl), better_no hc'])
def fixGo (g : Graph) (b l : List Cell) : List Cell :=
  match l with
  | [] => b
  | x :: l => fixGo g (improveM g b x).1 (l ++ (improveM g b x).2)
termination_by 3 * psi b + l.length
decreasing_by
  rcases fix_step g b x with h | h
  · simp only [List.length_append, List.length_cons]; omega
  · rw [h]; simp only [List.append_nil, List.length_cons]; omega
theorem fix_end {g : Graph} {b l : List Cell} (h : ¬ 0 < l.length) : fixGo g b l = b := by
  match l, h with
  | [], _ => rw [fixGo]
  | x :: l, h => exact absurd (Nat.zero_lt_succ _) h
theorem fix_next {g : Graph} {b l : List Cell} {x : Cell} (hl : 0 < l.length) (hx : List.getD l 0 default = x) : fixGo g b l = fixGo g (improveM g b x).1 (l.drop 1 ++ (improveM g b x).2) := by
  match l, hl with
  | y :: l, _ =>
    obtain rfl : y = x := hx
    rw [fixGo]; rfl
def fixIn (e : Int) (rs : List Record) : List Cell := (rs.filter (fun r => ofE e r && recordOk r)).map fun r => ⟨0, e, r.key, r.val⟩
def fixM (g : Graph) (e : Int) (rs : List Record) : List Cell := fixGo g [] (fixIn e rs)
def fixT (e : Int) (p : Record → Bool) (rs : List Record) (k : Nat) : List Cell := ((rs.take k).filter p).map fun r => ⟨0, e, r.key, r.val⟩
section
variable {g : Graph} {b l : List Cell} {x : Cell} {e : Int} {rs : List Record} {p : Record → Bool} {k : Nat}
theorem fix_mu (hl : 0 < l.length) : 3 * psi (improveM g b x).1 + (l.drop 1 ++ (improveM g b x).2).length < 3 * psi b + l.length := by
  rcases fix_step g b x with h | h
  · simp only [List.length_append, List.length_drop]; omega
  · rw [h]; simp only [List.length_append, List.length_drop, List.length_nil]; omega
theorem fix_b : (improveM g b x).1.length + psi (improveM g b x).1 ≤ b.length + psi b := by
  rcases fix_step g b x with h | h
  · omega
  · rw [h]; exact Nat.le_refl _
theorem fixGo_len (g : Graph) (b l : List Cell) : (fixGo g b l).length ≤ b.length + psi b := by
  induction b, l using fixGo.induct g with
  | case1 b => rw [fixGo]; omega
  | case2 b x l ih =>
    rw [fixGo]
    have := @fix_b g b x
    omega
theorem fix_len (g : Graph) (e : Int) (rs : List Record) : (fixM g e rs).length ≤ 3200000 := by
  have h := fixGo_len g [] (fixIn e rs)
  rw [psi_nil] at h
  simpa [fixM] using h
theorem fixT_0 : (fixT e p rs 0).flatMap Enc.enc = [] := by simp [fixT]
theorem fixT_yes (hk : k < rs.length) (h : p rs[k] = true) : (fixT e p rs k).flatMap Enc.enc ++ Enc.enc (⟨0, e, rs[k].key, rs[k].val⟩ : Cell) = (fixT e p rs (k + 1)).flatMap Enc.enc := by
  unfold fixT
  rw [List.take_succ_eq_append_getElem hk, List.filter_append, List.filter_cons_of_pos h, List.map_append, List.flatMap_append]; simp
theorem fixT_no (hk : k < rs.length) (h : p rs[k] = false) : (fixT e p rs k).flatMap Enc.enc = (fixT e p rs (k + 1)).flatMap Enc.enc := by
  unfold fixT
  rw [List.take_succ_eq_append_getElem hk, List.filter_append, List.filter_cons_of_neg (by rw [h]; simp)]; simp
theorem fixT_len (e : Int) (p : Record → Bool) (rs : List Record) (k : Nat) : (fixT e p rs k).length ≤ rs.length := by
  unfold fixT
  rw [List.length_map]
  exact Nat.le_trans (List.length_filter_le _ _) (by rw [List.length_take]; omega)
theorem fixT_sp (hk : rs.length ≤ k) : fixT e (fun r => ofE e r && recordOk r) rs k = fixIn e rs := by
  rw [fixT, List.take_of_length_le hk, fixIn]
theorem fixT_im (hk : (rs.filter (ofE e)).length ≤ k) : fixT e recordOk (rs.filter (ofE e)) k = fixIn e rs := by
  rw [fixT, List.take_of_length_le hk, fixIn, List.filter_filter]
  congr 2
  funext r
  exact Bool.and_comm _ _
theorem fixIn_len (e : Int) (rs : List Record) : (fixIn e rs).length ≤ rs.length := by
  rw [fixIn, List.length_map]; exact List.length_filter_le _ _
end
theorem numN1_mark (j k : Nat) (x : Node) : numN1 j (markN1 k x) = numN1 j x := by simp [numN1, markN1, mkL_length]
theorem markN1_idem (k : Nat) (x : Node) : markN1 k (markN1 k x) = markN1 k x := by simp [markN1, mkL_length]
theorem numL1_mark (j k : Nat) (x : Link) : numL1 j (markL1 k x) = numL1 j x := by simp [numL1, markL1, mkL_length]
theorem markL1_idem (k : Nat) (x : Link) : markL1 k (markL1 k x) = markL1 k x := by simp [markL1, mkL_length]
theorem numCl_mark (j k : Nat) (x : Cluster) : numCl j (markCl k x) = numCl j x := by simp [numCl, markCl, mkL_length, numA_mark numN1_mark, numA_mark numW_mark, numA_mark numL1_mark]
theorem markCl_idem (k : Nat) (x : Cluster) : markCl k x = markCl k (markCl k x) := by
  simp [markCl, mkL_length, numA_mark numN1_mark, numA_mark numW_mark, numA_mark numL1_mark, markA_idem numN1_mark markN1_idem, markA_idem numW_mark (fun k x => (markW_idem k x).symm), markA_idem numL1_mark markL1_idem]
theorem cntCl_mark (k : Nat) (x : Cluster) : cntCluster (markCl k x) = cntCluster x := by
  simp [cntCluster, cntGraph, markCl, mkL_length, cntA_mark (cnt := cntNode) (n := numN1) (m := markN1) (fun k x => by simp [cntNode, markN1, mkL_length]), cntA_mark (cnt := cntWorker) (n := numW) (m := markW) cntW_mark, cntA_mark (cnt := cntLink) (n := numL1) (m := markL1) (fun k x => by simp [cntLink, markL1, mkL_length])]
/-! ### InputsLeft -/
def inpTo (x : Cluster) (e : Int) (k : Nat) : List Record := (x.workers.take k).flatMap fun w => w.inputs.filter (ofE e)
theorem inpTo_step {x : Cluster} {e : Int} {k : Nat} (h : k < x.workers.length) : inpTo x e (k + 1) = inpTo x e k ++ x.workers[k].inputs.filter (ofE e) := by
  unfold inpTo
  rw [List.take_succ_eq_append_getElem h, List.flatMap_append]
  simp only [List.flatMap_cons, List.flatMap_nil, List.append_nil]
theorem inp_len (e : Int) : ∀ ws : List Worker, (ws.flatMap fun w => w.inputs.filter (ofE e)).length ≤ cntL cntWorker ws
  | [] => by simp
  | w :: ws => by
    have h1 := inp_len e ws
    have h2 := List.length_filter_le (ofE e) w.inputs
    simp only [List.flatMap_cons, List.length_append, cntL, List.length_cons, List.map_cons, List.sum_cons, cntWorker] at *; omega
theorem inpTo_len (x : Cluster) (e : Int) (k : Nat) : (inpTo x e k).length ≤ cntCluster x := by
  have h1 := inp_len e (x.workers.take k)
  have h2 : cntL cntWorker (x.workers.take k) ≤ cntL cntWorker x.workers := cntL_take
  unfold inpTo cntCluster; omega
/-! ### links that are turned -/
def ownerOf (k w : Int) : Int := if w < 1 then 0 else if Int.tmod k w < 0 then Int.tmod k w + w else Int.tmod k w
theorem owner_in {k w : Int} (h : 1 ≤ w) : 0 ≤ ownerOf k w ∧ ownerOf k w < w := by
  have h1 := Int.tmod_lt_of_pos k (show 0 < w by omega)
  have h2 : -w < Int.tmod k w := Int.lt_tmod_of_pos k (by omega)
  unfold ownerOf
  rw [if_neg (by omega)]
  split <;> omega
def linkNew (c : Int) : Link := ⟨brM c 1 4, [], brM c 1 4, 0, 0, 0⟩
def sendM (l : Link) (r : Record) : Link × Bool :=
  if linkOk l = true ∧ recordOk r = true ∧ l.credits ≠ 0 ∧ l.sent ≠ 1000000000 then (⟨l.cap, l.queue ++ [r], IntKind.i64.wrap (l.credits - 1), l.back, IntKind.i64.wrap (l.sent + 1), l.got⟩, true) else (l, false)
def tookM (l : Link) : Link × Record × Bool :=
  if linkOk l = true ∧ 0 < l.queue.length then (⟨l.cap, l.queue.drop 1, l.credits, IntKind.i64.wrap (l.back + 1), l.sent, IntKind.i64.wrap (l.got + 1)⟩, List.getD l.queue 0 default, true) else (l, ⟨0, ⟨0, 0⟩, 0, 0⟩, false)
def creditM (l : Link) : Link × Bool :=
  if linkOk l = true ∧ l.back ≠ 0 then (⟨l.cap, l.queue, IntKind.i64.wrap (l.credits + 1), IntKind.i64.wrap (l.back - 1), l.sent, l.got⟩, true) else (l, false)
section
variable {l : Link} {r : Record}
theorem link_sent (h : linkOk l = true) : l.sent ≤ 1000000000 := by
  simp only [linkOk, Bool.and_eq_true, win_iff] at h
  omega
theorem send_no (h : ((((!(linkOk l)) || (!(recordOk r))) || (l.credits == 0)) || (l.sent == 1000000000)) = true) : sendM l r = (l, false) := by
  unfold sendM; rw [if_neg]; rintro ⟨a, b, c, d⟩; simp [a, b, c, d] at h
theorem send_yes (h : ((((!(linkOk l)) || (!(recordOk r))) || (l.credits == 0)) || (l.sent == 1000000000)) = false) : sendM l r = (⟨l.cap, l.queue ++ [r], IntKind.i64.wrap (l.credits - 1), l.back, IntKind.i64.wrap (l.sent + 1), l.got⟩, true) := by
  unfold sendM; rw [if_pos]; simpa [and_assoc] using h
theorem send_s (b : Bool) (h : ((((!(linkOk l)) || (!(recordOk r))) || (l.credits == 0)) || (decide (l.sent ≥ 1000000000))) = b) : ((((!(linkOk l)) || (!(recordOk r))) || (l.credits == 0)) || (l.sent == 1000000000)) = b := by
  rw [← h]
  cases hk : linkOk l with
  | false => simp
  | true =>
    have := link_sent hk
    congr 1
    rw [Bool.eq_iff_iff]; simp only [beq_iff_eq, decide_eq_true_eq]; omega
theorem took_no (h : ((!(linkOk l)) || (((l.queue.length : Nat) : Int) == 0)) = true) : tookM l = (l, ⟨0, ⟨0, 0⟩, 0, 0⟩, false) := by
  unfold tookM; rw [if_neg]; rintro ⟨a, b⟩; simp [a] at h; simp [h] at b
theorem took_lt (h : ((!(linkOk l)) || (((l.queue.length : Nat) : Int) == 0)) = false) : 0 < l.queue.length := by
  simp only [Bool.or_eq_false_iff, beq_eq_false_iff_ne] at h; omega
theorem took_yes (h : ((!(linkOk l)) || (((l.queue.length : Nat) : Int) == 0)) = false) (hl : 0 < l.queue.length) : tookM l = (⟨l.cap, l.queue.drop 1, l.credits, IntKind.i64.wrap (l.back + 1), l.sent, IntKind.i64.wrap (l.got + 1)⟩, l.queue[0], true) := by
  have := took_lt h
  simp only [Bool.or_eq_false_iff, Bool.not_eq_false'] at h
  unfold tookM; rw [if_pos ⟨h.1, this⟩, getD_at hl]
theorem credit_no (h : ((!(linkOk l)) || (l.back == 0)) = true) : creditM l = (l, false) := by
  unfold creditM; rw [if_neg]; rintro ⟨a, b⟩; simp [a, b] at h
theorem credit_yes (h : ((!(linkOk l)) || (l.back == 0)) = false) : creditM l = (⟨l.cap, l.queue, IntKind.i64.wrap (l.credits + 1), IntKind.i64.wrap (l.back - 1), l.sent, l.got⟩, true) := by
  unfold creditM; rw [if_pos]; simpa using h
theorem cnt_send : cntLink (sendM l r).1 ≤ cntLink l + 1 := by unfold sendM; split <;> simp [cntLink]
theorem cnt_took : cntLink (tookM l).1 ≤ cntLink l := by unfold tookM; split <;> simp [cntLink]
theorem cnt_credit : cntLink (creditM l).1 = cntLink l := by unfold creditM; split <;> simp [cntLink]
end
/-! ### picks -/
def hasW (x : Cluster) (w : Int) : Bool := clOk x && win w 0 (IntKind.i64.wrap (((x.workers.length : Nat) : Int) - 1))
def linkOfM (x : Cluster) (a b : Int) : Int := if ((!(clOk x)) || (a == b)) = true then -1 else linkM x.graph a b
def wAt (x : Cluster) (w : Int) : Worker := List.getD x.workers (Int.toNat w) default
def lAt (x : Cluster) (k : Int) : Link := List.getD x.links (Int.toNat k) default
def setW (x : Cluster) (w : Int) (y : Worker) : Cluster := { x with workers := x.workers.set (Int.toNat w) y }
def setLk (x : Cluster) (k : Int) (y : Link) : Cluster := { x with links := x.links.set (Int.toNat k) y }
def pickInput (x : Cluster) (w : Int) : Cluster × Bool := if hasW x w = true then (setW x w (takeM x.graph (wAt x w)).1, (takeM x.graph (wAt x w)).2) else (x, false)
def pickWork (x : Cluster) (w : Int) : Cluster × Bool := if hasW x w = true then (setW x w (workM x.graph (wAt x w)).1, (workM x.graph (wAt x w)).2) else (x, false)
def pickCredit (x : Cluster) (a b : Int) : Cluster × Bool := if linkOfM x a b < 0 then (x, false) else (setLk x (linkOfM x a b) (creditM (lAt x (linkOfM x a b))).1, (creditM (lAt x (linkOfM x a b))).2)
def pickTake (x : Cluster) (a b : Int) : Cluster × Bool := if linkOfM x a b < 0 then (x, false) else
  if (tookM (lAt x (linkOfM x a b))).2.2 = true then (setW (setLk x (linkOfM x a b) (tookM (lAt x (linkOfM x a b))).1) b (recvW (wAt x b) (tookM (lAt x (linkOfM x a b))).2.1), true) else (x, false)
def mvR (x : Cluster) (w : Int) : Record := (unstM (wAt x w)).2.1
def mvO (x : Cluster) (w : Int) : Int := ownerOf (mvR x w).key x.graph.workers
def mvS (x : Cluster) (w : Int) : Link × Bool := sendM (lAt x (linkM x.graph w (mvO x w))) (mvR x w)
def pickMove (x : Cluster) (w : Int) : Cluster × Bool := if hasW x w = true ∧ 0 < (wAt x w).staged.length then
  if mvO x w = w then (setW x w (keptW (unstM (wAt x w)).1 (mvR x w)), true) else
  if (mvS x w).2 = true then (setW (setLk x (linkM x.graph w (mvO x w)) (mvS x w).1) w (sentW (unstM (wAt x w)).1 (mvR x w).stamp.epoch), true) else (x, false) else (x, false)
section
variable {x : Cluster} {a b w : Int}
theorem clOk_head (h : clOk x = true) : clHead x = false := by
  simp only [clOk, Bool.and_eq_true, Bool.not_eq_true'] at h
  exact h.1.1.1.1
theorem clOk_l (h : clOk x = true) : ((x.links.length : Nat) : Int) = x.graph.workers * x.graph.workers := by
  have h1 := clOk_head h
  have hg := cl_g h1
  simp only [clHead, Bool.or_eq_false_iff, bne_eq_false_iff_eq] at h1
  have h2 := h1.1.2
  rwa [wrap_in (by
    have := Int.mul_nonneg (show 0 ≤ x.graph.workers by omega) (show 0 ≤ x.graph.workers by omega)
    omega) (by
    have := Int.mul_le_mul hg.2 hg.2 (by omega) (by omega)
    omega)] at h2
theorem linkM_in (h : clOk x = true) (hp : ¬ (a < 0 ∨ b < 0 ∨ x.graph.workers ≤ a ∨ x.graph.workers ≤ b)) : linkM x.graph a b = a * x.graph.workers + b ∧ 0 ≤ a * x.graph.workers + b ∧ a * x.graph.workers + b < ((x.links.length : Nat) : Int) ∧ Int.toNat (linkM x.graph a b) < x.links.length := by
  have hl := clOk_l h
  have hg := cl_g (clOk_head h)
  have h1 : 0 ≤ a * x.graph.workers := Int.mul_nonneg (by omega) (by omega)
  have h2 : a * x.graph.workers ≤ (x.graph.workers - 1) * x.graph.workers := Int.mul_le_mul_of_nonneg_right (by omega) (by omega)
  rw [Int.sub_mul] at h2
  have h3 : x.graph.workers * x.graph.workers ≤ 4 * 4 := Int.mul_le_mul hg.2 hg.2 (by omega) (by omega)
  have e : linkM x.graph a b = a * x.graph.workers + b := by
    rw [linkM, if_neg hp, wrap_in (z := a * x.graph.workers) (by omega) (by omega), wrap_in (by omega) (by omega)]
  rw [e]
  refine ⟨rfl, by omega, by omega, by omega⟩
theorem linkOf_in (h : ¬ linkOfM x a b < 0) : clOk x = true ∧ a ≠ b ∧ ¬ (a < 0 ∨ b < 0 ∨ x.graph.workers ≤ a ∨ x.graph.workers ≤ b) ∧ 0 ≤ linkOfM x a b ∧ linkOfM x a b < ((x.links.length : Nat) : Int) ∧ Int.toNat (linkOfM x a b) < x.links.length ∧ Int.toNat b < x.workers.length ∧ linkOfM x a b = linkM x.graph a b := by
  unfold linkOfM at *
  split at h
  · omega
  · rename_i hq
    rw [if_neg hq]
    simp only [Bool.or_eq_true, Bool.not_eq_true', beq_iff_eq, not_or, Bool.not_eq_false] at hq
    have hp : ¬ (a < 0 ∨ b < 0 ∨ x.graph.workers ≤ a ∨ x.graph.workers ≤ b) := fun hp => by rw [linkM, if_pos hp] at h; omega
    have hw := cl_w (clOk_head hq.1)
    have hi := linkM_in hq.1 hp
    exact ⟨hq.1, hq.2, hp, by omega, by omega, hi.2.2.2, by omega, rfl⟩
theorem hasW_in (hm : x.workers.length ≤ maxLen) (h : hasW x w = true) : clOk x = true ∧ 0 ≤ w ∧ w < ((x.workers.length : Nat) : Int) ∧ Int.toNat w < x.workers.length := by
  unfold hasW at h
  rw [isN_w hm] at h
  simp only [Bool.and_eq_true, win_iff] at h
  exact ⟨h.1, by omega, by omega, by omega⟩
theorem lAt_at {k : Int} (h : Int.toNat k < x.links.length) : x.links[Int.toNat k] = lAt x k := (getD_at h).symm
theorem wAt_at (h : Int.toNat w < x.workers.length) : x.workers[Int.toNat w] = wAt x w := (getD_at h).symm
theorem cntL_set {α : Type} {cnt : α → Nat} : ∀ {xs : List α} {i : Nat} (h : i < xs.length) (y : α), cntL cnt (xs.set i y) + cnt xs[i] = cntL cnt xs + cnt y
  | [], _, h, _ => by simp at h
  | x :: xs, 0, _, y => by simp [cntL]; omega
  | x :: xs, i + 1, h, y => by
    have := cntL_set (cnt := cnt) (xs := xs) (i := i) (by simpa using h) y
    simp only [cntL, List.set_cons_succ, List.length_cons, List.map_cons, List.sum_cons, List.getElem_cons_succ] at *; omega
theorem cntL_get {α : Type} {cnt : α → Nat} {xs : List α} {i : Nat} (h : i < xs.length) : cnt xs[i] + 1 ≤ cntL cnt xs := by
  have := sum_le (f := cnt) h
  unfold cntL; omega
end
/-! ### clusters that go on -/
def runBad (x : Cluster) (ok : Bool) (a b : Int) : Bool := ((!ok) || (decide (linkM x.graph a b < 0))) || (a == b)
def runCredit (x : Cluster) (ok : Bool) (a b : Int) : Cluster × Bool := if runBad x ok a b = true then (x, false) else (setLk x (linkM x.graph a b) (creditM (lAt x (linkM x.graph a b))).1, (creditM (lAt x (linkM x.graph a b))).2)
section
variable {x : Cluster} {ok : Bool} {a b : Int}
theorem run_link (hcl : ok = true → clOk x = true) (h : (((!ok) || (decide (linkM x.graph a b < 0))) || (a == b)) = false) : 0 ≤ linkM x.graph a b ∧ Int.toNat (linkM x.graph a b) < x.links.length := by
  simp only [Bool.or_eq_false_iff, Bool.not_eq_false', decide_eq_false_iff_not] at h
  have hp : ¬ (a < 0 ∨ b < 0 ∨ x.graph.workers ≤ a ∨ x.graph.workers ≤ b) := fun hp => by have h2 := h.1.2; rw [linkM, if_pos hp] at h2; omega
  exact ⟨by omega, (linkM_in (hcl h.1.1) hp).2.2.2⟩
theorem credit_no1 (h : (((!ok) || (decide (linkM x.graph a b < 0))) || (a == b)) = true) : runCredit x ok a b = (x, false) := if_pos h
theorem credit_yes1 (h : (((!ok) || (decide (linkM x.graph a b < 0))) || (a == b)) = false) (hl : 0 ≤ linkM x.graph a b ∧ Int.toNat (linkM x.graph a b) < x.links.length) : runCredit x ok a b = (⟨x.graph, x.workers, x.links.set (Int.toNat (linkM x.graph a b)) (creditM (x.links[Int.toNat (linkM x.graph a b)]'hl.2)).1, x.tokens, x.news⟩, (creditM (x.links[Int.toNat (linkM x.graph a b)]'hl.2)).2) := by
  rw [runCredit, if_neg (show ¬ runBad x ok a b = true from nof h), lAt_at hl.2]; rfl
theorem pick_credit : runCredit x (clOk x) a b = pickCredit x a b := by
  unfold runCredit pickCredit
  by_cases h : runBad x (clOk x) a b = true
  · rw [if_pos h, if_pos]
    unfold linkOfM
    simp only [runBad, Bool.or_eq_true, Bool.not_eq_true', decide_eq_true_eq] at h
    split
    · omega
    · rename_i hq
      simp only [Bool.or_eq_true, Bool.not_eq_true'] at hq
      rcases h with (h | h) | h
      · exact absurd (.inl h) hq
      · exact h
      · exact absurd (.inr h) hq
  · rw [if_neg h]
    simp only [runBad, Bool.or_eq_true, Bool.not_eq_true', decide_eq_true_eq, not_or] at h
    have hq : ¬ ((!(clOk x)) || (a == b)) = true := by
      simp only [Bool.or_eq_true, Bool.not_eq_true', not_or]; exact ⟨h.1.1, h.2⟩
    have e : linkOfM x a b = linkM x.graph a b := by rw [linkOfM, if_neg hq]
    rw [e, if_neg h.1.2]
end
theorem cnt_setLk {x : Cluster} {k : Int} {y : Link} {c : Nat} (h : cntLink y ≤ cntLink (lAt x k) + c) : cntCluster (setLk x k y) ≤ cntCluster x + c := by
  unfold setLk lAt cntCluster at *
  by_cases hk : Int.toNat k < x.links.length
  · have := cntL_set (cnt := cntLink) hk y
    rw [getD_at hk] at h
    simp only at *; omega
  · rw [List.set_eq_of_length_le (by omega)]; simp only; omega
theorem cnt_setW {x : Cluster} {k : Int} {y : Worker} {c : Nat} (h : cntWorker y ≤ cntWorker (wAt x k) + c) : cntCluster (setW x k y) ≤ cntCluster x + c := by
  unfold setW wAt cntCluster at *
  by_cases hk : Int.toNat k < x.workers.length
  · have := cntL_set (cnt := cntWorker) hk y
    rw [getD_at hk] at h
    simp only at *; omega
  · rw [List.set_eq_of_length_le (by omega)]; simp only; omega
theorem cnt_pickCredit (x : Cluster) (a b : Int) : cntCluster (pickCredit x a b).1 ≤ cntCluster x := by
  unfold pickCredit; split
  · exact Nat.le_refl _
  · exact cnt_setLk (c := 0) (by rw [cnt_credit]; exact Nat.le_refl _)
theorem cnt_pickInput (x : Cluster) (w : Int) : cntCluster (pickInput x w).1 ≤ cntCluster x := by
  unfold pickInput; split
  · exact cnt_setW (c := 0) cnt_take
  · exact Nat.le_refl _
theorem cnt_pickWork (x : Cluster) (w : Int) : cntCluster (pickWork x w).1 ≤ cntCluster x + 3 := by
  unfold pickWork; split
  · exact cnt_setW cnt_work
  · exact Nat.le_add_right _ _
theorem cnt_pickTake (x : Cluster) (a b : Int) : cntCluster (pickTake x a b).1 ≤ cntCluster x + 1 := by
  unfold pickTake; split
  · exact Nat.le_add_right _ _
  · split
    · refine Nat.le_trans (cnt_setW (c := 1) ?_) (Nat.add_le_add_right (cnt_setLk (c := 0) cnt_took) 1)
      exact Nat.le_of_eq (cnt_recv _ _)
    · exact Nat.le_add_right _ _
theorem cnt_pickMove (x : Cluster) (w : Int) : cntCluster (pickMove x w).1 ≤ cntCluster x + 2 := by
  have hu := cnt_unst (wAt x w)
  unfold pickMove; split
  · split
    · exact cnt_setW (c := 2) (by rw [cnt_kept]; omega)
    · split
      · refine Nat.le_trans (cnt_setW (c := 1) ?_) (Nat.add_le_add_right (cnt_setLk (c := 1) cnt_send) 1)
        rw [cnt_sent]; exact Nat.le_succ_of_le hu
      · exact Nat.le_add_right _ _
  · exact Nat.le_add_right _ _
/-! ### TakeInput in a cluster that goes on -/
def runHas (x : Cluster) (ok : Bool) (w : Int) : Bool := ok && win w 0 (IntKind.i64.wrap (((x.workers.length : Nat) : Int) - 1))
def inBad (y : Worker) : Bool := ((decide (((y.staged.length : Nat) : Int) > 0)) || (decide (((y.queue.length : Nat) : Int) > 0))) || (((y.inputs.length : Nat) : Int) == 0)
def runInput (x : Cluster) (ok : Bool) (w : Int) : Cluster × Bool := if runHas x ok w = true ∧ inBad (wAt x w) = false then
  (setW x w ⟨[List.getD (wAt x w).inputs 0 default], (wAt x w).staged, (wAt x w).inputs.drop 1, (wAt x w).cells, (wAt x w).sums, (wAt x w).black, (wAt x w).caps, (wAt x w).dones⟩, true) else (x, false)
section
variable {x : Cluster} {ok : Bool} {w : Int}
theorem run_w (hcl : ok = true → clOk x = true) (hm : x.workers.length ≤ maxLen) (h : (!(ok && win w 0 (IntKind.i64.wrap (((x.workers.length : Nat) : Int) - 1)))) = false) : clOk x = true ∧ 0 ≤ w ∧ w < ((x.workers.length : Nat) : Int) ∧ Int.toNat w < x.workers.length := by
  simp only [Bool.not_eq_false', Bool.and_eq_true] at h
  exact hasW_in hm (by unfold hasW; rw [hcl h.1, h.2]; rfl)
theorem input_no1 (h : (!(ok && win w 0 (IntKind.i64.wrap (((x.workers.length : Nat) : Int) - 1)))) = true) : runInput x ok w = (x, false) := by
  unfold runInput; rw [if_neg]; rintro ⟨a, _⟩; unfold runHas at a; rw [a] at h; cases h
variable (hw : clOk x = true ∧ 0 ≤ w ∧ w < ((x.workers.length : Nat) : Int) ∧ Int.toNat w < x.workers.length)
theorem input_no2 (h : inBad (x.workers[Int.toNat w]'hw.2.2.2) = true) : runInput x ok w = (x, false) := by
  unfold runInput; rw [if_neg]; rintro ⟨_, a⟩; rw [← wAt_at hw.2.2.2, h] at a; cases a
theorem run_in0 {y : Worker} (h : inBad y = false) : 0 < y.inputs.length := by
  unfold inBad at h
  simp only [Bool.or_eq_false_iff, beq_eq_false_iff_ne] at h; omega
theorem input_yes (h1 : runHas x ok w = true) (h : inBad (x.workers[Int.toNat w]'hw.2.2.2) = false) (h0 : 0 < (x.workers[Int.toNat w]'hw.2.2.2).inputs.length) : runInput x ok w =
    (⟨x.graph, x.workers.set (Int.toNat w) ⟨[(x.workers[Int.toNat w]'hw.2.2.2).inputs[0]], (x.workers[Int.toNat w]'hw.2.2.2).staged, (x.workers[Int.toNat w]'hw.2.2.2).inputs.drop 1, (x.workers[Int.toNat w]'hw.2.2.2).cells, (x.workers[Int.toNat w]'hw.2.2.2).sums, (x.workers[Int.toNat w]'hw.2.2.2).black, (x.workers[Int.toNat w]'hw.2.2.2).caps, (x.workers[Int.toNat w]'hw.2.2.2).dones⟩, x.links, x.tokens, x.news⟩, true) := by
  have e := wAt_at hw.2.2.2
  unfold runInput
  rw [if_pos ⟨h1, by rw [← e]; exact h⟩, ← e, getD_at h0]; rfl
theorem wk_le (y : Worker) : y.queue.length ≤ cntWorker y ∧ y.staged.length ≤ cntWorker y ∧ y.inputs.length ≤ cntWorker y := by unfold cntWorker; omega
theorem in_bad {g : Graph} {y : Worker} (h1 : graphOk g = true) (h2 : workerOk g y = true) : takeBad g y = inBad y := by
  unfold takeBad inBad
  rw [h1, h2, Bool.eq_iff_iff]
  simp only [Bool.or_eq_true, decide_eq_true_eq, beq_iff_eq, Bool.not_eq_true']
  constructor <;> intro h <;> simp_all <;> omega
end
theorem clOk_in {x : Cluster} (h : clOk x = true) : graphOk x.graph = true ∧ ∀ y ∈ x.workers, workerOk x.graph y = true := by
  have h1 := clOk_head h
  simp only [clHead, Bool.or_eq_false_iff, Bool.not_eq_false'] at h1
  simp only [clOk, Bool.and_eq_true] at h
  exact ⟨h1.1.1.1, fun y hy => List.all_eq_true.1 h.1.1.1.2 y hy⟩
theorem pick_input {x : Cluster} {w : Int} (hm : x.workers.length ≤ maxLen) : runInput x (clOk x) w = pickInput x w := by
  unfold runInput pickInput
  by_cases h : hasW x w = true
  · have hw := hasW_in hm h
    have hc := clOk_in hw.1
    have hwk : workerOk x.graph (wAt x w) = true := by rw [← wAt_at hw.2.2.2]; exact hc.2 _ (List.getElem_mem _)
    have hb := in_bad (y := wAt x w) hc.1 hwk
    have hr : runHas x (clOk x) w = true := h
    rw [if_pos h]
    cases hq : inBad (wAt x w) with
    | true =>
      rw [if_neg (by simp), takeM, if_pos (by rw [hb, hq])]
      have : setW x w (wAt x w) = x := by
        unfold setW; rw [← wAt_at hw.2.2.2, List.set_getElem_self]
      rw [this]
    | false =>
      have hq0 : (wAt x w).queue = [] := by
        unfold inBad at hq
        simp only [Bool.or_eq_false_iff, decide_eq_false_iff_not] at hq
        exact List.eq_nil_of_length_eq_zero (by omega)
      rw [if_pos ⟨hr, rfl⟩, takeM, if_neg (by rw [hb, hq]; simp), hq0]; rfl
  · rw [if_neg h, if_neg (fun hq => h hq.1)]
/-! ### sums -/
def sumY (y : Worker) (e n : Int) : Worker := ⟨y.queue, y.staged, y.inputs, y.cells, y.sums.set (Int.toNat e) (IntKind.i64.wrap (List.getD y.sums (Int.toNat e) default + n)), y.black, y.caps, y.dones⟩
def sumOk (y : Worker) (e n : Int) : Bool := win (IntKind.i64.wrap (List.getD y.sums (Int.toNat e) default + n)) (-1000000) 1000000
section
variable {x : Cluster} {p e n : Int}
theorem sum_x (h : Int.toNat p < x.workers.length) (he : Int.toNat e < (x.workers[Int.toNat p]'h).sums.length) : setW x p (sumY (wAt x p) e n) = ⟨x.graph, x.workers.set (Int.toNat p) ⟨(x.workers[Int.toNat p]'h).queue, (x.workers[Int.toNat p]'h).staged, (x.workers[Int.toNat p]'h).inputs, (x.workers[Int.toNat p]'h).cells, (x.workers[Int.toNat p]'h).sums.set (Int.toNat e) (IntKind.i64.wrap ((x.workers[Int.toNat p]'h).sums[Int.toNat e] + n)), (x.workers[Int.toNat p]'h).black, (x.workers[Int.toNat p]'h).caps, (x.workers[Int.toNat p]'h).dones⟩, x.links, x.tokens, x.news⟩ := by
  rw [← wAt_at h]; unfold setW sumY; rw [getD_at he]
theorem sum_k (h : Int.toNat p < x.workers.length) (he : Int.toNat e < (x.workers[Int.toNat p]'h).sums.length) : sumOk (wAt x p) e n = win (List.getD ((x.workers[Int.toNat p]'h).sums.set (Int.toNat e) (IntKind.i64.wrap ((x.workers[Int.toNat p]'h).sums[Int.toNat e] + n))) (Int.toNat e) default) (-1000000) 1000000 := by
  rw [← wAt_at h]; unfold sumOk; rw [getD_at he, getD_at (by simpa using he)]; simp
end
/-! ### taking in a cluster that goes on -/
def takeY (y : Worker) (r : Record) : Worker := ⟨y.queue ++ [r], y.staged, y.inputs, y.cells, y.sums, y.black.set (Int.toNat r.stamp.epoch) true, y.caps, y.dones⟩
def runTake (x : Cluster) (ok : Bool) (a b : Int) : Cluster × Bool × Bool := if runBad x ok a b = true then (x, false, ok) else
  if (tookM (lAt x (linkM x.graph a b))).2.2 = false then (x, false, ok) else
  (setW (setLk x (linkM x.graph a b) (tookM (lAt x (linkM x.graph a b))).1) b (sumY (takeY (wAt x b) (tookM (lAt x (linkM x.graph a b))).2.1) (tookM (lAt x (linkM x.graph a b))).2.1.stamp.epoch (-1)), true,
    ok && sumOk (takeY (wAt x b) (tookM (lAt x (linkM x.graph a b))).2.1) (tookM (lAt x (linkM x.graph a b))).2.1.stamp.epoch (-1))
section
variable {x : Cluster} {ok : Bool} {a b : Int}
theorem took_rec {l : Link} (h : (tookM l).2.2 = true) : recordOk (tookM l).2.1 = true := by
  unfold tookM at *
  split at h
  · rename_i hq
    rw [if_pos hq]
    have h1 := hq.1
    simp only [linkOk, Bool.and_eq_true] at h1
    rw [getD_at hq.2]
    exact List.all_eq_true.1 h1.2 _ (List.getElem_mem _)
  · cases h
theorem rec_ep {r : Record} (h : recordOk r = true) : 0 ≤ r.stamp.epoch ∧ r.stamp.epoch ≤ 3 := by
  simp only [recordOk, stampOk, Bool.and_eq_true, win_iff] at h
  omega
theorem wk_len4 {g : Graph} {y : Worker} (h : workerOk g y = true) : y.sums.length = 4 ∧ y.black.length = 4 ∧ y.caps.length = 4 := by
  simp only [workerOk, Bool.and_eq_true, beq_iff_eq] at h
  have h1 := h.1.1.1.1.2
  have h2 := h.1.1.1.2
  have h3 := h.1.1.2
  omega
theorem take_facts (hcl : ok = true → clOk x = true) (h : (((!ok) || (decide (linkM x.graph a b < 0))) || (a == b)) = false) (hl : Int.toNat (linkM x.graph a b) < x.links.length) (ht : (tookM (x.links[Int.toNat (linkM x.graph a b)]'hl)).2.2 = true) :
    0 ≤ b ∧ b < ((x.workers.length : Nat) : Int) ∧ ∃ hb : Int.toNat b < x.workers.length, 0 ≤ (tookM (x.links[Int.toNat (linkM x.graph a b)]'hl)).2.1.stamp.epoch ∧ Int.toNat (tookM (x.links[Int.toNat (linkM x.graph a b)]'hl)).2.1.stamp.epoch < (x.workers[Int.toNat b]'hb).sums.length ∧ Int.toNat (tookM (x.links[Int.toNat (linkM x.graph a b)]'hl)).2.1.stamp.epoch < (x.workers[Int.toNat b]'hb).black.length := by
  simp only [Bool.or_eq_false_iff, Bool.not_eq_false', decide_eq_false_iff_not] at h
  have hc := hcl h.1.1
  have hp : ¬ (a < 0 ∨ b < 0 ∨ x.graph.workers ≤ a ∨ x.graph.workers ≤ b) := fun hp => by have h2 := h.1.2; rw [linkM, if_pos hp] at h2; omega
  have hw := cl_w (clOk_head hc)
  have hb : Int.toNat b < x.workers.length := by omega
  have he := rec_ep (took_rec ht)
  have h4 := wk_len4 ((clOk_in hc).2 _ (List.getElem_mem hb))
  exact ⟨by omega, by omega, hb, he.1, by omega, by omega⟩
theorem take2_no1 (h : (((!ok) || (decide (linkM x.graph a b < 0))) || (a == b)) = true) : runTake x ok a b = (x, false, ok) := if_pos h
theorem take2_no2 (hl : Int.toNat (linkM x.graph a b) < x.links.length) (h : (((!ok) || (decide (linkM x.graph a b < 0))) || (a == b)) = false) (ht : (tookM (x.links[Int.toNat (linkM x.graph a b)]'hl)).2.2 = false) : runTake x ok a b = (x, false, ok) := by
  rw [lAt_at hl] at ht
  rw [runTake, if_neg (show ¬ runBad x ok a b = true from nof h), if_pos ht]
theorem take2_yes {X1 : Cluster} (hwb : Int.toNat b < x.workers.length) (hl : Int.toNat (linkM x.graph a b) < x.links.length) (h : (((!ok) || (decide (linkM x.graph a b < 0))) || (a == b)) = false) (ht : (tookM (x.links[Int.toNat (linkM x.graph a b)]'hl)).2.2 = true)
    (hX : X1 = setW (setLk x (linkM x.graph a b) (tookM (lAt x (linkM x.graph a b))).1) b (takeY (wAt x b) (tookM (lAt x (linkM x.graph a b))).2.1)) :
    runTake x ok a b = (setW X1 b (sumY (wAt X1 b) (tookM (x.links[Int.toNat (linkM x.graph a b)]'hl)).2.1.stamp.epoch (-1)), true, ok && sumOk (wAt X1 b) (tookM (x.links[Int.toNat (linkM x.graph a b)]'hl)).2.1.stamp.epoch (-1)) := by
  have hb : runBad x ok a b = false := h
  rw [lAt_at hl] at ht ⊢
  rw [runTake, hb, ht, hX]
  simp only [Bool.false_eq_true, if_false, Bool.true_eq_false]
  have hp : ¬ (a < 0 ∨ b < 0 ∨ x.graph.workers ≤ a ∨ x.graph.workers ≤ b) := fun hp => by
    simp only [Bool.or_eq_false_iff, Bool.not_eq_false', decide_eq_false_iff_not] at h
    have h2 := h.1.2; rw [linkM, if_pos hp] at h2; omega
  have e1 : wAt (setW (setLk x (linkM x.graph a b) (tookM (lAt x (linkM x.graph a b))).1) b (takeY (wAt x b) (tookM (lAt x (linkM x.graph a b))).2.1)) b = takeY (wAt x b) (tookM (lAt x (linkM x.graph a b))).2.1 := by
    simp only [wAt, setW, setLk]
    rw [getD_at (by simpa using hwb)]; simp
  rw [e1]
  simp only [setW, List.set_set]
end
/-! ### WorkOn in a cluster that goes on -/
def wkBad (y : Worker) : Bool := (decide (((y.staged.length : Nat) : Int) > 0)) || (((y.queue.length : Nat) : Int) == 0)
def wkY (g : Graph) (y : Worker) : Worker := ⟨y.queue.drop 1, (stepM g y.cells (workR y)).2.1, y.inputs, (stepM g y.cells (workR y)).1, y.sums, y.black, if cappedM g (workR y) = true then y.caps.set (Int.toNat (workR y).stamp.epoch) true else y.caps, y.dones⟩
def runWork (x : Cluster) (ok : Bool) (w : Int) : Cluster × Bool := if runHas x ok w = true ∧ wkBad (wAt x w) = false then (setW x w (wkY x.graph (wAt x w)), true) else (x, false)
section
variable {x : Cluster} {ok : Bool} {w : Int}
theorem wk_le2 (y : Worker) : y.queue.length ≤ cntWorker y ∧ y.staged.length ≤ cntWorker y ∧ y.cells.length ≤ cntWorker y := by unfold cntWorker; omega
theorem run_wk0 {y : Worker} (h : wkBad y = false) : 0 < y.queue.length := by
  unfold wkBad at h
  simp only [Bool.or_eq_false_iff, beq_eq_false_iff_ne] at h; omega
theorem wk_bad {g : Graph} {y : Worker} (h1 : graphOk g = true) (h2 : workerOk g y = true) : workBad g y = wkBad y := by
  unfold workBad wkBad
  rw [h1, h2, Bool.eq_iff_iff]
  simp only [Bool.or_eq_true, decide_eq_true_eq, beq_iff_eq, Bool.not_eq_true']
  constructor <;> intro h <;> simp_all <;> omega
theorem work2_no1 (h : (!(ok && win w 0 (IntKind.i64.wrap (((x.workers.length : Nat) : Int) - 1)))) = true) : runWork x ok w = (x, false) := by
  unfold runWork; rw [if_neg]; rintro ⟨a, _⟩; unfold runHas at a; rw [a] at h; cases h
variable (hw : clOk x = true ∧ 0 ≤ w ∧ w < ((x.workers.length : Nat) : Int) ∧ Int.toNat w < x.workers.length)
theorem work2_no2 (h : wkBad (x.workers[Int.toNat w]'hw.2.2.2) = true) : runWork x ok w = (x, false) := by
  unfold runWork; rw [if_neg]; rintro ⟨_, a⟩; rw [← wAt_at hw.2.2.2, h] at a; cases a
theorem run_wcap (h : wkBad (x.workers[Int.toNat w]'hw.2.2.2) = false) (hl : 0 < (x.workers[Int.toNat w]'hw.2.2.2).queue.length) (hc : cappedM x.graph (x.workers[Int.toNat w]'hw.2.2.2).queue[0] = true) :
    0 ≤ (x.workers[Int.toNat w]'hw.2.2.2).queue[0].stamp.epoch ∧ Int.toNat (x.workers[Int.toNat w]'hw.2.2.2).queue[0].stamp.epoch < (x.workers[Int.toNat w]'hw.2.2.2).caps.length := by
  have hc' := clOk_in hw.1
  exact work_cap (by rw [wk_bad hc'.1 (hc'.2 _ (List.getElem_mem _))]; exact h) hl hc
theorem work2_c (h1 : runHas x ok w = true) (h : wkBad (x.workers[Int.toNat w]'hw.2.2.2) = false) (h0 : 0 < (x.workers[Int.toNat w]'hw.2.2.2).queue.length) (hc : cappedM x.graph (x.workers[Int.toNat w]'hw.2.2.2).queue[0] = true) : runWork x ok w =
    (⟨x.graph, x.workers.set (Int.toNat w) ⟨(x.workers[Int.toNat w]'hw.2.2.2).queue.drop 1, (stepM x.graph (x.workers[Int.toNat w]'hw.2.2.2).cells (x.workers[Int.toNat w]'hw.2.2.2).queue[0]).2.1, (x.workers[Int.toNat w]'hw.2.2.2).inputs, (stepM x.graph (x.workers[Int.toNat w]'hw.2.2.2).cells (x.workers[Int.toNat w]'hw.2.2.2).queue[0]).1, (x.workers[Int.toNat w]'hw.2.2.2).sums, (x.workers[Int.toNat w]'hw.2.2.2).black, (x.workers[Int.toNat w]'hw.2.2.2).caps.set (Int.toNat (x.workers[Int.toNat w]'hw.2.2.2).queue[0].stamp.epoch) true, (x.workers[Int.toNat w]'hw.2.2.2).dones⟩, x.links, x.tokens, x.news⟩, true) := by
  have e := wAt_at hw.2.2.2
  unfold runWork
  rw [if_pos ⟨h1, by rw [← e]; exact h⟩, ← e]
  have hr : workR (x.workers[Int.toNat w]'hw.2.2.2) = (x.workers[Int.toNat w]'hw.2.2.2).queue[0] := getD_at h0
  unfold wkY; rw [hr, if_pos hc]; rfl
theorem work2_n (h1 : runHas x ok w = true) (h : wkBad (x.workers[Int.toNat w]'hw.2.2.2) = false) (h0 : 0 < (x.workers[Int.toNat w]'hw.2.2.2).queue.length) (hc : cappedM x.graph (x.workers[Int.toNat w]'hw.2.2.2).queue[0] = false) : runWork x ok w =
    (⟨x.graph, x.workers.set (Int.toNat w) ⟨(x.workers[Int.toNat w]'hw.2.2.2).queue.drop 1, (stepM x.graph (x.workers[Int.toNat w]'hw.2.2.2).cells (x.workers[Int.toNat w]'hw.2.2.2).queue[0]).2.1, (x.workers[Int.toNat w]'hw.2.2.2).inputs, (stepM x.graph (x.workers[Int.toNat w]'hw.2.2.2).cells (x.workers[Int.toNat w]'hw.2.2.2).queue[0]).1, (x.workers[Int.toNat w]'hw.2.2.2).sums, (x.workers[Int.toNat w]'hw.2.2.2).black, (x.workers[Int.toNat w]'hw.2.2.2).caps, (x.workers[Int.toNat w]'hw.2.2.2).dones⟩, x.links, x.tokens, x.news⟩, true) := by
  have e := wAt_at hw.2.2.2
  unfold runWork
  rw [if_pos ⟨h1, by rw [← e]; exact h⟩, ← e]
  have hr : workR (x.workers[Int.toNat w]'hw.2.2.2) = (x.workers[Int.toNat w]'hw.2.2.2).queue[0] := getD_at h0
  unfold wkY; rw [hr, if_neg (nof hc)]; rfl
end
theorem pick_work {x : Cluster} {w : Int} (hm : x.workers.length ≤ maxLen) : runWork x (clOk x) w = pickWork x w := by
  unfold runWork pickWork
  by_cases h : hasW x w = true
  · have hw := hasW_in hm h
    have hc := clOk_in hw.1
    have hwk : workerOk x.graph (wAt x w) = true := by rw [← wAt_at hw.2.2.2]; exact hc.2 _ (List.getElem_mem _)
    have hb := wk_bad (y := wAt x w) hc.1 hwk
    have hr : runHas x (clOk x) w = true := h
    rw [if_pos h]
    cases hq : wkBad (wAt x w) with
    | true =>
      rw [if_neg (by simp), workM, if_pos (by rw [hb, hq])]
      have : setW x w (wAt x w) = x := by
        unfold setW; rw [← wAt_at hw.2.2.2, List.set_getElem_self]
      rw [this]
    | false =>
      rw [if_pos ⟨hr, rfl⟩, workM, if_neg (by rw [hb, hq]; simp)]; rfl
  · rw [if_neg h, if_neg (fun hq => h hq.1)]
section
variable {x : Cluster} {a b : Int}
theorem recv_sum {g : Graph} {y : Worker} {r : Record} (h : workerOk g y = true) (hr : recordOk r = true) : recvW y r = sumY (takeY y r) r.stamp.epoch (-1) := by
  have h4 := wk_len4 h
  have he := rec_ep hr
  have hok : recvOk y r := by unfold recvOk; omega
  rw [recvW, if_pos hok]
  unfold sumY takeY
  simp only [Int.sub_eq_add_neg]
theorem take_link (h : runBad x (clOk x) a b = false) : linkOfM x a b = linkM x.graph a b ∧ ¬ linkOfM x a b < 0 := by
  simp only [runBad, Bool.or_eq_false_iff, Bool.not_eq_false', decide_eq_false_iff_not, beq_eq_false_iff_ne] at h
  have hq : ¬ ((!(clOk x)) || (a == b)) = true := by simp [h.1.1, h.2]
  have e : linkOfM x a b = linkM x.graph a b := by rw [linkOfM, if_neg hq]
  exact ⟨e, by rw [e]; exact h.1.2⟩
theorem take_bad (h : runBad x (clOk x) a b = true) : linkOfM x a b < 0 := by
  unfold linkOfM
  simp only [runBad, Bool.or_eq_true, Bool.not_eq_true', decide_eq_true_eq] at h
  split
  · omega
  · rename_i hq
    simp only [Bool.or_eq_true, Bool.not_eq_true'] at hq
    rcases h with (h | h) | h
    · exact absurd (.inl h) hq
    · exact h
    · exact absurd (.inr h) hq
theorem pick_take : (runTake x (clOk x) a b).1 = (pickTake x a b).1 ∧ (runTake x (clOk x) a b).2.1 = (pickTake x a b).2 := by
  unfold runTake pickTake
  cases h : runBad x (clOk x) a b with
  | true => rw [if_pos rfl, if_pos (take_bad h)]; exact ⟨rfl, rfl⟩
  | false =>
    have hl := take_link h
    have hi := linkOf_in hl.2
    rw [if_neg (by simp), if_neg hl.2, hl.1]
    cases ht : (tookM (lAt x (linkM x.graph a b))).2.2 with
    | false => rw [if_pos rfl, if_neg (by simp)]; exact ⟨rfl, rfl⟩
    | true =>
      rw [if_neg (by simp), if_pos rfl]
      have hw : workerOk x.graph (wAt x b) = true := by rw [← wAt_at hi.2.2.2.2.2.2.1]; exact (clOk_in hi.1).2 _ (List.getElem_mem _)
      rw [recv_sum hw (took_rec ht)]
      exact ⟨rfl, rfl⟩
theorem pick_take1 : (runTake x (clOk x) a b).1 = (pickTake x a b).1 := pick_take.1
theorem pick_take2 : (runTake x (clOk x) a b).2.1 = (pickTake x a b).2 := pick_take.2
end
section
variable {x : Cluster} {p k : Int}
theorem mv_no (h : ((!(hasW x p)) || (((((List.getD x.workers (Int.toNat p) default).staged).length : Nat) : Int) == 0)) = true) : ¬ (hasW x p = true ∧ 0 < (wAt x p).staged.length) := by
  rintro ⟨a, b⟩
  unfold wAt at b
  rw [a] at h
  simp only [Bool.not_true, Bool.false_or, beq_iff_eq] at h
  omega
theorem mv_yes (h : ((!(hasW x p)) || (((((List.getD x.workers (Int.toNat p) default).staged).length : Nat) : Int) == 0)) = false) : hasW x p = true ∧ 0 < (wAt x p).staged.length := by
  simp only [Bool.or_eq_false_iff, Bool.not_eq_false', beq_eq_false_iff_ne] at h
  unfold wAt
  exact ⟨h.1, by omega⟩
theorem move_in (hw : clOk x = true ∧ 0 ≤ p ∧ p < ((x.workers.length : Nat) : Int) ∧ Int.toNat p < x.workers.length) : 0 ≤ linkM x.graph p (ownerOf k x.graph.workers) ∧ Int.toNat (linkM x.graph p (ownerOf k x.graph.workers)) < x.links.length := by
  have hg := cl_g (clOk_head hw.1)
  have hl := cl_w (clOk_head hw.1)
  have ho := owner_in (k := k) hg.1
  have := linkM_in (b := ownerOf k x.graph.workers) hw.1 (a := p) (by omega)
  exact ⟨by omega, this.2.2.2⟩
end
section
variable {x : Cluster} {p : Int} (hw : clOk x = true ∧ 0 ≤ p ∧ p < ((x.workers.length : Nat) : Int) ∧ Int.toNat p < x.workers.length) (h1 : hasW x p = true ∧ 0 < (wAt x p).staged.length)
include h1
theorem mv_k (he : (ownerOf ((unstM (x.workers[Int.toNat p]'hw.2.2.2)).2.1).key x.graph.workers == p) = true) : pickMove x p = (setW x p (keptW (unstM (x.workers[Int.toNat p]'hw.2.2.2)).1 (unstM (x.workers[Int.toNat p]'hw.2.2.2)).2.1), true) := by
  have he := eq_of_beq he
  rw [wAt_at hw.2.2.2] at he ⊢
  rw [pickMove, if_pos h1, if_pos (show mvO x p = p from he)]; rfl
variable (hl : Int.toNat (linkM x.graph p (ownerOf ((unstM (x.workers[Int.toNat p]'hw.2.2.2)).2.1).key x.graph.workers)) < x.links.length)
theorem mv_f (he : (ownerOf ((unstM (x.workers[Int.toNat p]'hw.2.2.2)).2.1).key x.graph.workers == p) = false) (hs : (sendM (x.links[Int.toNat (linkM x.graph p (ownerOf ((unstM (x.workers[Int.toNat p]'hw.2.2.2)).2.1).key x.graph.workers))]'hl) (unstM (x.workers[Int.toNat p]'hw.2.2.2)).2.1).2 = false) : pickMove x p = (x, false) := by
  have he := beq_eq_false_iff_ne.1 he
  rw [lAt_at hl] at hs
  simp only [wAt_at hw.2.2.2] at he hs
  rw [pickMove, if_pos h1, if_neg (show ¬ mvO x p = p from he), if_neg (show ¬ (mvS x p).2 = true from fun hc => by
    have : (mvS x p).2 = false := hs
    rw [this] at hc; cases hc)]
theorem mv_t (he : (ownerOf ((unstM (x.workers[Int.toNat p]'hw.2.2.2)).2.1).key x.graph.workers == p) = false) (hs : (sendM (x.links[Int.toNat (linkM x.graph p (ownerOf ((unstM (x.workers[Int.toNat p]'hw.2.2.2)).2.1).key x.graph.workers))]'hl) (unstM (x.workers[Int.toNat p]'hw.2.2.2)).2.1).2 = true) :
    pickMove x p = (setW (setLk x (linkM x.graph p (ownerOf ((unstM (x.workers[Int.toNat p]'hw.2.2.2)).2.1).key x.graph.workers)) (sendM (x.links[Int.toNat (linkM x.graph p (ownerOf ((unstM (x.workers[Int.toNat p]'hw.2.2.2)).2.1).key x.graph.workers))]'hl) (unstM (x.workers[Int.toNat p]'hw.2.2.2)).2.1).1) p (sentW (unstM (x.workers[Int.toNat p]'hw.2.2.2)).1 (unstM (x.workers[Int.toNat p]'hw.2.2.2)).2.1.stamp.epoch), true) := by
  have he := beq_eq_false_iff_ne.1 he
  rw [lAt_at hl] at hs ⊢
  simp only [wAt_at hw.2.2.2] at he hs ⊢
  rw [pickMove, if_pos h1, if_neg (show ¬ mvO x p = p from he), if_pos (show (mvS x p).2 = true from hs)]; rfl
end
/-! ### moving in a cluster that goes on -/
def smR (x : Cluster) (p : Int) : Record := List.getD (wAt x p).staged 0 default
def smK (x : Cluster) (p : Int) : Int := linkM x.graph p (ownerOf (smR x p).key x.graph.workers)
def dropS (y : Worker) : Worker := ⟨y.queue, y.staged.drop 1, y.inputs, y.cells, y.sums, y.black, y.caps, y.dones⟩
def runMove (x : Cluster) (ok : Bool) (p : Int) : Cluster × Bool × Bool := if runHas x ok p = true ∧ 0 < (wAt x p).staged.length then
  if ownerOf (smR x p).key x.graph.workers = p then (setW x p (dropS (keptW (wAt x p) (smR x p))), true, ok) else
  if (sendM (lAt x (smK x p)) (smR x p)).2 = true then (setW (setLk x (smK x p) (sendM (lAt x (smK x p)) (smR x p)).1) p (dropS (sumY (wAt x p) (smR x p).stamp.epoch 1)), true, ok && sumOk (wAt x p) (smR x p).stamp.epoch 1) else (x, false, ok)
  else (x, false, ok)
section
variable {x : Cluster} {ok : Bool} {p : Int}
theorem move_no1 (h : ((!(ok && win p 0 (IntKind.i64.wrap (((x.workers.length : Nat) : Int) - 1)))) || (((((List.getD x.workers (Int.toNat p) default).staged).length : Nat) : Int) == 0)) = true) : runMove x ok p = (x, false, ok) := by
  unfold runMove; rw [if_neg]; rintro ⟨a, b⟩
  unfold runHas at a
  unfold wAt at b
  rw [a] at h
  simp only [Bool.not_true, Bool.false_or, beq_iff_eq] at h
  omega
theorem run_mv (h : ((!(ok && win p 0 (IntKind.i64.wrap (((x.workers.length : Nat) : Int) - 1)))) || (((((List.getD x.workers (Int.toNat p) default).staged).length : Nat) : Int) == 0)) = false) : (!(ok && win p 0 (IntKind.i64.wrap (((x.workers.length : Nat) : Int) - 1)))) = false ∧ 0 < (wAt x p).staged.length := by
  simp only [Bool.or_eq_false_iff, beq_eq_false_iff_ne] at h
  unfold wAt
  exact ⟨h.1, by omega⟩
variable (hw : clOk x = true ∧ 0 ≤ p ∧ p < ((x.workers.length : Nat) : Int) ∧ Int.toNat p < x.workers.length) (h0 : 0 < (x.workers[Int.toNat p]'hw.2.2.2).staged.length)
theorem staged_ok (h0 : 0 < (x.workers[Int.toNat p]'hw.2.2.2).staged.length) : recordOk (x.workers[Int.toNat p]'hw.2.2.2).staged[0] = true := by
  have h := (clOk_in hw.1).2 _ (List.getElem_mem hw.2.2.2)
  simp only [workerOk, Bool.and_eq_true] at h
  have h2 := h.1.1.1.1.1.1.1.1.2
  have := List.all_eq_true.1 h2 _ (List.getElem_mem h0)
  simp only [opOk, Bool.and_eq_true] at this
  exact this.1
theorem move_ep (h0 : 0 < (x.workers[Int.toNat p]'hw.2.2.2).staged.length) : 0 ≤ (x.workers[Int.toNat p]'hw.2.2.2).staged[0].stamp.epoch ∧ Int.toNat (x.workers[Int.toNat p]'hw.2.2.2).staged[0].stamp.epoch < (x.workers[Int.toNat p]'hw.2.2.2).sums.length := by
  have h4 := wk_len4 ((clOk_in hw.1).2 _ (List.getElem_mem hw.2.2.2))
  have he := rec_ep (staged_ok hw h0)
  omega
theorem sm_rec (h0 : 0 < (x.workers[Int.toNat p]'hw.2.2.2).staged.length) : smR x p = (x.workers[Int.toNat p]'hw.2.2.2).staged[0] := by
  unfold smR; rw [← wAt_at hw.2.2.2]; exact getD_at h0
variable (h1 : ((!(ok && win p 0 (IntKind.i64.wrap (((x.workers.length : Nat) : Int) - 1)))) || (((((List.getD x.workers (Int.toNat p) default).staged).length : Nat) : Int) == 0)) = false)
include h1
theorem move_has : runHas x ok p = true ∧ 0 < (wAt x p).staged.length := by
  have := run_mv h1
  exact ⟨by unfold runHas; simpa using this.1, this.2⟩
theorem move_k {X1 : Cluster} (he : (ownerOf ((x.workers[Int.toNat p]'hw.2.2.2).staged[0]'h0).key x.graph.workers != p) = false) (hX : X1 = setW x p (dropS (keptW (x.workers[Int.toNat p]'hw.2.2.2) ((x.workers[Int.toNat p]'hw.2.2.2).staged[0]'h0)))) : runMove x ok p = (X1, true, ok) := by
  have hr := sm_rec hw h0
  simp only [bne_eq_false_iff_eq] at he
  rw [hX, runMove, if_pos (move_has h1), hr, if_pos he, ← wAt_at hw.2.2.2]
variable (hl : Int.toNat (linkM x.graph p (ownerOf ((x.workers[Int.toNat p]'hw.2.2.2).staged[0]'h0).key x.graph.workers)) < x.links.length)
theorem move_f (he : (ownerOf ((x.workers[Int.toNat p]'hw.2.2.2).staged[0]'h0).key x.graph.workers != p) = true) (hs : (sendM (x.links[Int.toNat (linkM x.graph p (ownerOf ((x.workers[Int.toNat p]'hw.2.2.2).staged[0]'h0).key x.graph.workers))]'hl) ((x.workers[Int.toNat p]'hw.2.2.2).staged[0]'h0)).2 = false) : runMove x ok p = (x, false, ok) := by
  have hr := sm_rec hw h0
  have he := bne_iff_ne.1 he
  rw [lAt_at hl] at hs
  rw [runMove, if_pos (move_has h1), smK, hr, if_neg he, if_neg (by rw [hs]; simp)]
theorem move_t {X1 : Cluster} {okk : Bool} (he : (ownerOf ((x.workers[Int.toNat p]'hw.2.2.2).staged[0]'h0).key x.graph.workers != p) = true) (hs : (sendM (x.links[Int.toNat (linkM x.graph p (ownerOf ((x.workers[Int.toNat p]'hw.2.2.2).staged[0]'h0).key x.graph.workers))]'hl) ((x.workers[Int.toNat p]'hw.2.2.2).staged[0]'h0)).2 = true)
    (hX : X1 = setW (setLk x (linkM x.graph p (ownerOf ((x.workers[Int.toNat p]'hw.2.2.2).staged[0]'h0).key x.graph.workers)) (sendM (x.links[Int.toNat (linkM x.graph p (ownerOf ((x.workers[Int.toNat p]'hw.2.2.2).staged[0]'h0).key x.graph.workers))]'hl) ((x.workers[Int.toNat p]'hw.2.2.2).staged[0]'h0)).1) p (dropS (sumY (x.workers[Int.toNat p]'hw.2.2.2) ((x.workers[Int.toNat p]'hw.2.2.2).staged[0]'h0).stamp.epoch 1)))
    (hk : okk = (ok && sumOk (x.workers[Int.toNat p]'hw.2.2.2) ((x.workers[Int.toNat p]'hw.2.2.2).staged[0]'h0).stamp.epoch 1)) : runMove x ok p = (X1, true, okk) := by
  have hr := sm_rec hw h0
  have he := bne_iff_ne.1 he
  rw [lAt_at hl] at hs hX
  rw [hX, hk, runMove, if_pos (move_has h1), smK, hr, if_neg he, if_pos hs, ← wAt_at hw.2.2.2]
end
section
variable {x : Cluster} {p : Int}
theorem unst_pos {y : Worker} (h : 0 < y.staged.length) : unstM y = (dropS y, List.getD y.staged 0 default, true) := by
  rw [unstM, if_neg (by omega)]; rfl
theorem sent_sum {g : Graph} {y : Worker} {r : Record} (h : workerOk g y = true) (hr : recordOk r = true) : sentW (dropS y) r.stamp.epoch = dropS (sumY y r.stamp.epoch 1) := by
  have h4 := wk_len4 h
  have he := rec_ep hr
  rw [sentW, if_pos (by simp only [dropS]; omega)]
  rfl
theorem pick_move (hm : x.workers.length ≤ maxLen) : (runMove x (clOk x) p).1 = (pickMove x p).1 ∧ (runMove x (clOk x) p).2.1 = (pickMove x p).2 := by
  unfold runMove pickMove
  by_cases h : hasW x p = true ∧ 0 < (wAt x p).staged.length
  · have hr : runHas x (clOk x) p = true ∧ 0 < (wAt x p).staged.length := h
    have hw := hasW_in hm h.1
    have hu := unst_pos h.2
    have e1 : mvR x p = smR x p := by unfold mvR smR; rw [hu]
    have e2 : mvO x p = ownerOf (smR x p).key x.graph.workers := by unfold mvO; rw [e1]
    have e3 : mvS x p = sendM (lAt x (smK x p)) (smR x p) := by unfold mvS smK; rw [e1, e2]
    have e4 : linkM x.graph p (mvO x p) = smK x p := by unfold smK; rw [e2]
    rw [if_pos hr, if_pos h, e4, e2, e3, e1, hu]
    have hwk : workerOk x.graph (wAt x p) = true := by rw [← wAt_at hw.2.2.2]; exact (clOk_in hw.1).2 _ (List.getElem_mem _)
    have hrec : recordOk (smR x p) = true := by
      have h0 : 0 < (x.workers[Int.toNat p]'hw.2.2.2).staged.length := by rw [wAt_at hw.2.2.2]; exact h.2
      rw [sm_rec hw h0]; exact staged_ok hw h0
    by_cases ho : ownerOf (smR x p).key x.graph.workers = p
    · rw [if_pos ho, if_pos ho]; exact ⟨rfl, rfl⟩
    · rw [if_neg ho, if_neg ho]
      by_cases hs : (sendM (lAt x (smK x p)) (smR x p)).2 = true
      · rw [if_pos hs, if_pos hs, sent_sum hwk hrec]; exact ⟨rfl, rfl⟩
      · rw [if_neg hs, if_neg hs]; exact ⟨rfl, rfl⟩
  · rw [if_neg (show ¬ (runHas x (clOk x) p = true ∧ 0 < (wAt x p).staged.length) from h), if_neg h]; exact ⟨rfl, rfl⟩
theorem pick_move1 (hm : x.workers.length ≤ maxLen) : (runMove x (clOk x) p).1 = (pickMove x p).1 := (pick_move hm).1
theorem pick_move2 (hm : x.workers.length ≤ maxLen) : (runMove x (clOk x) p).2.1 = (pickMove x p).2 := (pick_move hm).2
end
/-! ### a new cluster -/
def mineP (n w : Int) (r : Record) : Bool := ownerOf r.key n == w
def bothP (e n w : Int) (r : Record) : Bool := ofE e r && mineP n w r
def ownTo (n w : Int) (xs : List Record) : Nat → List Record
  | 0 => []
  | e + 1 => ownTo n w xs e ++ (xs.filter (ofE ((e : Nat) : Int))).filter (mineP n w)
theorem own_both {e n w : Int} {xs : List Record} : xs.filter (bothP e n w) = (xs.filter (ofE e)).filter (mineP n w) := by
  rw [List.filter_filter]; exact List.filter_congr fun r _ => by simp [bothP, Bool.and_comm]
theorem ownTo_len (n w : Int) (xs : List Record) : ∀ e, (ownTo n w xs e).length ≤ e * xs.length
  | 0 => by simp [ownTo]
  | e + 1 => by
    have h1 := ownTo_len n w xs e
    have h2 : ((xs.filter (ofE ((e : Nat) : Int))).filter (mineP n w)).length ≤ xs.length := Nat.le_trans (List.length_filter_le _ _) (List.length_filter_le _ _)
    simp only [ownTo, List.length_append]; rw [Nat.add_mul]; omega
theorem ownTo_len4 {n w : Int} {xs : List Record} {e : Nat} (h : e ≤ 4) : (ownTo n w xs e).length ≤ 4 * xs.length := Nat.le_trans (ownTo_len n w xs e) (Nat.mul_le_mul_right _ h)
theorem own_len {α : Type} {xs : List α} {p : α → Bool} {k : Nat} : ((xs.take k).filter p).length ≤ xs.length := Nat.le_trans (List.length_filter_le _ _) (by simp; omega)
theorem own_yes {α : Type} [Enc α] {A xs : List α} {p : α → Bool} {k : Nat} (h1 : k < xs.length) (h : p xs[k] = true) : (A ++ (xs.take k).filter p).flatMap Enc.enc ++ Enc.enc xs[k] = (A ++ (xs.take (k + 1)).filter p).flatMap Enc.enc := by
  rw [List.flatMap_append, List.append_assoc, filt_yes h1 h, ← List.flatMap_append]
theorem own_no {α : Type} [Enc α] {A xs : List α} {p : α → Bool} {k : Nat} (h1 : k < xs.length) (h : p xs[k] = false) : (A ++ (xs.take k).filter p).flatMap Enc.enc = (A ++ (xs.take (k + 1)).filter p).flatMap Enc.enc := by
  rw [List.flatMap_append, filt_no h1 h, ← List.flatMap_append]
theorem own_end {n w : Int} {xs : List Record} {e k : Nat} (h : xs.length ≤ k) : ownTo n w xs e ++ (xs.take k).filter (bothP ((e : Nat) : Int) n w) = ownTo n w xs (e + 1) := by
  rw [List.take_of_length_le h, own_both]; rfl
theorem own_end2 {n w : Int} {xs : List Record} {e k : Nat} (h : (xs.filter (ofE ((e : Nat) : Int))).length ≤ k) : ownTo n w xs e ++ ((xs.filter (ofE ((e : Nat) : Int))).take k).filter (mineP n w) = ownTo n w xs (e + 1) := by
  rw [List.take_of_length_le h]; rfl
theorem ofE_len (e : Int) (xs : List Record) : (xs.filter (ofE e)).length ≤ xs.length := List.length_filter_le _ _
def recBad (r : Record) : Bool := (!(recordOk r) || r.op != 0) || r.stamp.turn != 0
def newWs (g : Graph) (xs : List Record) (k : Nat) : List Worker := (List.range k).map fun i => workerNew (ownTo g.workers ((i : Nat) : Int) xs 4)
theorem newWs_step {g : Graph} {xs : List Record} {k : Nat} : newWs g xs (k + 1) = newWs g xs k ++ [workerNew (ownTo g.workers ((k : Nat) : Int) xs 4)] := by simp [newWs, List.range_succ]
theorem newWs_len (g : Graph) (xs : List Record) (k : Nat) : (newWs g xs k).length = k := by simp [newWs]
def clZero : Cluster := ⟨⟨[], 0, 0⟩, [], [], [], []⟩
def newCl (g : Graph) (xs : List Record) : Cluster := ⟨g, newWs g xs (Int.toNat g.workers), List.replicate (Int.toNat g.workers * Int.toNat g.workers) (linkNew g.cap), [⟨false, 0, 0, false, false⟩, ⟨false, 0, 0, false, false⟩, ⟨false, 0, 0, false, false⟩, ⟨false, 0, 0, false, false⟩], []⟩
theorem newCl_at {g : Graph} {xs : List Record} {k : Nat} (h : k = Int.toNat g.workers) : newCl g xs = ⟨g, newWs g xs k, List.replicate (k * Int.toNat g.workers) (linkNew g.cap), [⟨false, 0, 0, false, false⟩, ⟨false, 0, 0, false, false⟩, ⟨false, 0, 0, false, false⟩, ⟨false, 0, 0, false, false⟩], []⟩ := by subst h; rfl
def clusterNew (g : Graph) (xs : List Record) : Cluster × Bool := if ((!(graphOk g)) || decide (20 < ((xs.length : Nat) : Int))) = true then (clZero, false) else if xs.any recBad = true then (clZero, false) else (newCl g xs, true)
theorem cn_bad1 {g : Graph} {xs : List Record} (h : ((!(graphOk g)) || decide (20 < ((xs.length : Nat) : Int))) = true) : clusterNew g xs = (clZero, false) := by rw [clusterNew, if_pos h]
theorem cn_bad2 {g : Graph} {xs : List Record} {k : Nat} (h : ((!(graphOk g)) || decide (20 < ((xs.length : Nat) : Int))) = false) (hk : k < xs.length) (hb : recBad xs[k] = true) : clusterNew g xs = (clZero, false) := by
  rw [clusterNew, if_neg (by rw [h]; simp), if_pos (List.any_eq_true.2 ⟨_, List.getElem_mem hk, hb⟩)]
theorem cn_ok {g : Graph} {xs : List Record} {k : Nat} (h : ((!(graphOk g)) || decide (20 < ((xs.length : Nat) : Int))) = false) (hk : xs.length ≤ k) (hb : (xs.take k).any recBad = false) : clusterNew g xs = (newCl g xs, true) := by
  rw [List.take_of_length_le hk] at hb
  rw [clusterNew, if_neg (by rw [h]; simp), if_neg (by rw [hb]; simp)]
theorem cn_gw {g : Graph} {xs : List Record} (h : ((!(graphOk g)) || decide (20 < ((xs.length : Nat) : Int))) = false) : 1 ≤ g.workers ∧ g.workers ≤ 4 ∧ xs.length ≤ 20 := by
  simp only [Bool.or_eq_false_iff, decide_eq_false_iff_not, Bool.not_eq_false', graphOk, Bool.and_eq_true, Bool.not_eq_true', headBad, Bool.not_eq_false'] at h
  have h1 := win_iff.1 h.1.1.1.2
  omega
theorem rg4 {n : Int} {m : Nat} (h : 1 ≤ n ∧ n ≤ 4 ∧ m ≤ 20) : rg n := by unfold rg; omega
theorem cnt_newWs (g : Graph) (xs : List Record) : ∀ k, k ≤ 4 → cntL cntWorker (newWs g xs k) ≤ k * (4 * xs.length + 13)
  | 0, _ => by simp [newWs, cntL]
  | k + 1, h => by
    have h1 := cnt_newWs g xs k (by omega)
    have h2 := @ownTo_len4 g.workers ((k : Nat) : Int) xs 4 (by omega)
    rw [newWs_step]
    unfold cntL at *
    simp only [List.length_append, List.map_append, List.sum_append, List.map_cons, List.map_nil, List.sum_cons, List.sum_nil, List.length_cons, List.length_nil, cnt_new]
    rw [Nat.add_mul]; omega
theorem cnt_newL (c : Int) (n : Nat) : cntL cntLink (List.replicate n (linkNew c)) ≤ n := by
  unfold cntL
  simp only [List.length_replicate, List.map_replicate, List.sum_replicate_nat]
  have : cntLink (linkNew c) = 0 := by simp [cntLink, linkNew]
  rw [this]; simp
theorem cnt_clusterNew (g : Graph) (xs : List Record) : cntCluster (clusterNew g xs).1 ≤ cntGraph g + 1000 := by
  unfold clusterNew
  split
  · simp [clZero, cntCluster, cntGraph, cntL]
  rename_i h
  split
  · simp [clZero, cntCluster, cntGraph, cntL]
  have hg := cn_gw (Bool.eq_false_iff.2 h)
  have h1 := cnt_newWs g xs (Int.toNat g.workers) (by omega)
  have h2 := cnt_newL g.cap (Int.toNat g.workers * Int.toNat g.workers)
  have h3 : Int.toNat g.workers * Int.toNat g.workers ≤ 4 * 4 := Nat.mul_le_mul (by omega) (by omega)
  have h4 : Int.toNat g.workers * (4 * xs.length + 13) ≤ 4 * (4 * 20 + 13) := Nat.mul_le_mul (by omega) (by omega)
  simp only [newCl, cntCluster]
  simp only [List.length_cons, List.length_nil]
  omega
/-! ### a memory: in order, and what was met goes on once -/
theorem lex_lt {x y c : Int} : (if ordI x y = 0 then c else ordI x y) < 0 ↔ x < y ∨ x = y ∧ c < 0 := by
  unfold ordI
  by_cases h : x < y
  · simp [h]
  · by_cases h2 : y < x
    · simp [h, h2]; omega
    · simp [h, h2]; omega
theorem cellLt_iff {a b : Cell} : cellLt (a, b) = true ↔ a.epoch < b.epoch ∨ a.epoch = b.epoch ∧ (a.op < b.op ∨ a.op = b.op ∧ (a.key < b.key ∨ a.key = b.key ∧ a.val < b.val)) := by
  have h0 : cellLt (a, b) = true ↔ cellOrd a b < 0 := by unfold cellLt; simp
  rw [h0]
  unfold cellOrd
  simp only [cmpL, lex_lt]
  omega
theorem putLt_cellLt {a b : Cell} : putLt a b = cellLt (b, a) := by
  unfold putLt cellLt
  rw [Bool.eq_iff_iff]; simp
theorem adj_pair : ∀ {xs : List Cell}, (adj xs).all cellLt = true ↔ xs.Pairwise (fun a b => cellLt (a, b) = true)
  | [] => by simp [adj]
  | [x] => by simp [adj]
  | x :: y :: l => by
    have ih := @adj_pair (y :: l)
    simp only [adj, List.all_cons, Bool.and_eq_true, ih, List.pairwise_cons (a := x)]
    constructor
    · rintro ⟨h1, h2⟩
      refine ⟨fun z hz => ?_, h2⟩
      rcases List.mem_cons.1 hz with rfl | hz
      · exact h1
      · have h3 := (List.pairwise_cons.1 h2).1 z hz
        rw [cellLt_iff] at *; omega
    · exact fun h => ⟨h.1 y (by simp), h.2⟩
theorem putM_mem (xs : List Cell) (x : Cell) : x ∈ putM xs x := by
  unfold putM; split
  · assumption
  · simp [insM]
theorem putM_pair {xs : List Cell} {x : Cell} (h : xs.Pairwise (fun a b => cellLt (a, b) = true)) : (putM xs x).Pairwise (fun a b => cellLt (a, b) = true) := by
  unfold putM; split
  · exact h
  rename_i hx
  have h1 : ∀ y ∈ xs.take (putAt xs x), cellLt (y, x) = true := fun y hy => by
    obtain ⟨j, hj, rfl⟩ := List.mem_take_iff_getElem.1 hy
    have := List.not_of_lt_findIdx (p := fun y => !(putLt x y)) (xs := xs) (i := j) (by unfold putAt at hj; omega)
    rw [← putLt_cellLt]; simpa using this
  have h2 : ∀ y ∈ xs.drop (putAt xs x), cellLt (x, y) = true := fun y hy => by
    have hk : putAt xs x < xs.length := by
      rcases Nat.lt_or_ge (putAt xs x) xs.length with h | h
      · exact h
      · rw [List.drop_of_length_le h] at hy; cases hy
    have h3 : putLt x xs[putAt xs x] = false := by
      have h : (!(putLt x xs[putAt xs x])) = true := List.findIdx_getElem (xs := xs) (p := fun y => !(putLt x y)) (w := hk)
      simpa using h
    rw [putLt_cellLt] at h3
    have h4 : cellLt (x, xs[putAt xs x]) = true := by
      have hne : x ≠ xs[putAt xs x] := fun e => hx (e ▸ List.getElem_mem hk)
      have hne2 : ¬ (x.op = xs[putAt xs x].op ∧ x.epoch = xs[putAt xs x].epoch ∧ x.key = xs[putAt xs x].key ∧ x.val = xs[putAt xs x].val) := fun e => hne (by
        cases x; generalize xs[putAt xs _] = q at e; cases q; simpa using e)
      rw [← Bool.not_eq_true, cellLt_iff] at h3
      rw [cellLt_iff]; omega
    rw [List.drop_eq_getElem_cons hk] at hy
    rcases List.mem_cons.1 hy with rfl | hy
    · exact h4
    · have hp : (xs.drop (putAt xs x)).Pairwise (fun a b => cellLt (a, b) = true) := h.sublist (List.drop_sublist _ _)
      rw [List.drop_eq_getElem_cons hk] at hp
      have h5 := (List.pairwise_cons.1 hp).1 y hy
      rw [cellLt_iff] at *; omega
  unfold insM
  rw [List.pairwise_append, List.pairwise_cons]
  refine ⟨h.sublist (List.take_sublist _ _), ⟨h2, h.sublist (List.drop_sublist _ _)⟩, fun a ha b hb => ?_⟩
  rcases List.mem_cons.1 hb with rfl | hb
  · exact h1 a ha
  · have q1 := h1 a ha; have q2 := h2 b hb
    rw [cellLt_iff] at *; omega
theorem recallM_adj {kind : Int} {xs : List Cell} {x : Cell} (h : (adj xs).all cellLt = true) : (adj (recallM kind xs x).1).all cellLt = true := by
  rw [adj_pair] at *
  unfold recallM betterM
  split
  · split
    · exact h
    · exact putM_pair (h.sublist (List.filter_sublist))
  · split
    · exact putM_pair h
    · exact h
theorem better_again (xs : List Cell) (x : Cell) : betterM (betterM xs x).1 x = ((betterM xs x).1, false) ∧ (leastM (betterM xs x).1 x.op x.epoch x.key).2 = true ∧ (leastM (betterM xs x).1 x.op x.epoch x.key).1 ≤ x.val := by
  cases hq : ((leastM xs x.op x.epoch x.key).2 && decide ((leastM xs x.op x.epoch x.key).1 ≤ x.val))
  · have h := better_own (xs := xs) (x := x) (by rw [betterM_no hq])
    refine ⟨betterM_yes (by rw [h]; simp), by rw [h], by rw [h]; exact Int.le_refl _⟩
  · rw [betterM_yes hq]
    simp only [Bool.and_eq_true, decide_eq_true_eq] at hq
    exact ⟨betterM_yes (by simpa using hq), hq.1, hq.2⟩
theorem recallM_again {kind : Int} (xs : List Cell) (x : Cell) (hk : ((kind == 5) || (kind == 6) || (kind == 8)) = true) : recallM kind (recallM kind xs x).1 x = ((recallM kind xs x).1, false) := by
  by_cases h6 : (kind == 6) = true
  · rw [recallM_n h6, recallM_n h6]
    have := putM_mem xs x
    simp [putM_yes (decide_eq_true this), this]
  · have h58 : (kind == 5) = true ∨ (kind == 8) = true := by
      simp only [Bool.or_eq_true] at hk
      rcases hk with (h | h) | h
      · exact .inl h
      · exact absurd h h6
      · exact .inr h
    rw [recallM_b h58, recallM_b h58]; exact (better_again xs x).1
theorem recallM_least {kind : Int} (xs : List Cell) (x : Cell) (hk : ((kind == 5) || (kind == 6) || (kind == 8)) = true) : ((leastM (recallM kind xs x).1 x.op x.epoch x.key).2 = true ∧ (leastM (recallM kind xs x).1 x.op x.epoch x.key).1 ≤ x.val) ∨ (kind == 6) = true := by
  by_cases h6 : (kind == 6) = true
  · exact .inr h6
  · have h58 : (kind == 5) = true ∨ (kind == 8) = true := by
      simp only [Bool.or_eq_true] at hk
      rcases hk with (h | h) | h
      · exact .inl h
      · exact absurd h h6
      · exact .inr h
    rw [recallM_b h58]; exact .inl (better_again xs x).2
theorem recallM_six {kind : Int} (xs : List Cell) (x : Cell) (hk : ((kind == 5) || (kind == 6) || (kind == 8)) = true) (h : (leastM (recallM kind xs x).1 x.op x.epoch x.key).2 = false ∨ decide ((leastM (recallM kind xs x).1 x.op x.epoch x.key).1 ≤ x.val) = false) : (kind == 6) = true := by
  rcases recallM_least xs x hk with h1 | h1
  · rcases h with h | h
    · rw [h1.1] at h; cases h
    · rw [decide_eq_true h1.2] at h; cases h
  · exact h1
theorem recallM_fin (kind : Int) (xs : List Cell) (x : Cell) :
    (((((!(((kind == 5) || (kind == 6)) || (kind == 8))) || ((!((recallM kind (recallM kind xs x).1 x).2)) && (decide ((recallM kind (recallM kind xs x).1 x).1 = (recallM kind xs x).1)))) &&
      (((!(((kind == 5) || (kind == 6)) || (kind == 8))) || (((leastM (recallM kind xs x).1 x.op x.epoch x.key).2) && (decide ((leastM (recallM kind xs x).1 x.op x.epoch x.key).1 ≤ x.val)))) || (kind == 6))) &&
      ((!((adj xs).all cellLt)) || ((adj (recallM kind xs x).1).all cellLt))) && ((((putM [] ⟨0, 0, 0, 0⟩).length : Nat) : Int) == 1)) = true := by
  have h1 : ((!((adj xs).all cellLt)) || ((adj (recallM kind xs x).1).all cellLt)) = true := by
    cases h : (adj xs).all cellLt
    · rfl
    · rw [recallM_adj h]; rfl
  rw [h1, show ((((putM [] ⟨0, 0, 0, 0⟩).length : Nat) : Int) == 1) = true from by decide]
  cases hk : (((kind == 5) || (kind == 6)) || (kind == 8))
  · rfl
  · rw [recallM_again xs x hk]
    rcases recallM_least xs x hk with h | h
    · rw [h.1, decide_eq_true h.2]; simp
    · rw [h]; simp

/-! ### drawn graphs -/
def smG (g : Graph) : Prop := g.nodes.length ≤ 9 ∧ ∀ y ∈ g.nodes, y.outs.length ≤ 3
theorem smG_any {g : Graph} {a b : Int} (h : smG g) : smG ⟨g.nodes, a, b⟩ := h
theorem smG_take {g : Graph} {a b : Int} {k : Nat} (h : smG g) : smG ⟨g.nodes.take k, a, b⟩ := ⟨by have := h.1; simp; omega, fun y hy => h.2 y (List.mem_of_mem_take hy)⟩
theorem smG_set {g : Graph} {a b : Int} {k : Nat} {y : Node} (h : smG g) (hy : y.outs.length ≤ 3) : smG ⟨g.nodes.set k y, a, b⟩ :=
  ⟨by simpa using h.1, fun z hz => (List.mem_or_eq_of_mem_set hz).elim (h.2 z) (fun e => e ▸ hy)⟩
theorem smG_set1 {g : Graph} {a b : Int} {k : Nat} {p q r n : Int} {hk : k < g.nodes.length} (h : smG g) (h2 : ∀ y ∈ g.nodes, y.outs.length ≤ 2) : smG ⟨g.nodes.set k ⟨p, q, r, (g.nodes[k]'hk).outs ++ [n]⟩, a, b⟩ :=
  smG_set h (by have := h2 _ (List.getElem_mem hk); simp; omega)
theorem cnt_small : ∀ {xs : List Node}, (∀ y ∈ xs, y.outs.length ≤ 3) → cntL cntNode xs ≤ 4 * xs.length
  | [], _ => by simp [cntL]
  | y :: xs, hx => by
    have h1 := cnt_small fun z hz => hx z (List.mem_cons_of_mem y hz)
    have h2 := hx y (by simp)
    simp only [cntL, List.length_cons, List.map_cons, List.sum_cons, cntNode] at *
    omega
theorem smG_cnt {g : Graph} (h : smG g) : cntGraph g ≤ 1048576 := by
  have h1 := cnt_small h.2
  have h2 := h.1
  unfold cntGraph
  omega
theorem improve_again (g : Graph) (xs : List Cell) (x : Cell) : improveM g (improveM g xs x).1 x = ((improveM g xs x).1, []) := by
  cases hb : impBad g x with
  | true => rw [imp_0 hb, imp_0 hb]
  | false =>
    have h1 : (improveM g xs x).1 = (betterM xs x).1 := by
      rw [improveM, if_neg (nof hb)]; split <;> rfl
    rw [h1, improveM, if_neg (nof hb), (better_again xs x).1, if_pos (by simp)]
theorem improve_fin (g : Graph) (xs : List Cell) (x : Cell) (h1 : 0 ≤ x.epoch ∧ x.epoch ≤ 1) (h2 : 0 ≤ x.key ∧ x.key ≤ 5) (h3 : 0 ≤ x.val ∧ x.val ≤ 8) : ((((((((((improveM g ((improveM g xs x).1) x).2).length : Nat) : Int) == 0) && (decide (((improveM g ((improveM g xs x).1) x).1) = ((improveM g xs x).1)))) && ((!(((graphOk g) && (decide (0 ≤ x.op))) && (decide (x.op < ((g.nodes.length : Nat) : Int))))) || (((leastM ((improveM g xs x).1) x.op x.epoch x.key).2) && (decide (((leastM ((improveM g xs x).1) x.op x.epoch x.key).1) ≤ x.val))))) && (decide (((((improveM g xs x).2).length : Nat) : Int) ≤ 2))) && (((((improveM (⟨[(⟨1, 0, 0, [1]⟩ : Node), (⟨8, 0, 0, []⟩ : Node)], 1, 1⟩ : Graph) [] (⟨0, 0, 4, 0⟩ : Cell)).2).length : Nat) : Int) == 1)) && (decide ((List.getD ((improveM (⟨[(⟨1, 0, 0, [1]⟩ : Node), (⟨8, 0, 0, []⟩ : Node)], 1, 1⟩ : Graph) [] (⟨0, 0, 4, 0⟩ : Cell)).2) 0 default) = (⟨1, 0, 4, 0⟩ : Cell)))) = true := by
  have e1 : (improveM (⟨[(⟨1, 0, 0, [1]⟩ : Node), (⟨8, 0, 0, []⟩ : Node)], 1, 1⟩ : Graph) [] (⟨0, 0, 4, 0⟩ : Cell)).2 = [⟨1, 0, 4, 0⟩] := by decide +kernel
  have e2 : ((!(((graphOk g) && (decide (0 ≤ x.op))) && (decide (x.op < ((g.nodes.length : Nat) : Int))))) || (((leastM ((improveM g xs x).1) x.op x.epoch x.key).2) && (decide (((leastM ((improveM g xs x).1) x.op x.epoch x.key).1) ≤ x.val)))) = true := by
    cases hg : (((graphOk g) && (decide (0 ≤ x.op))) && (decide (x.op < ((g.nodes.length : Nat) : Int))))
    · rfl
    · simp only [Bool.and_eq_true, decide_eq_true_eq] at hg
      have hb : impBad g x = false := by
        have hn : isNodeM g x.op = true := win_iff.2 (by omega)
        have a1 : win x.epoch 0 3 = true := win_iff.2 (by omega)
        have a2 : win x.key 0 99 = true := win_iff.2 (by omega)
        have a3 : win x.val 0 999 = true := win_iff.2 (by omega)
        simp [impBad, hg.1.1, hn, a1, a2, a3]
      have h1 : (improveM g xs x).1 = (betterM xs x).1 := by
        rw [improveM, if_neg (nof hb)]; split <;> rfl
      have h2 := (better_again xs x).2
      rw [h1, h2.1, decide_eq_true h2.2]; rfl
  have e3 := @improve_len2 g xs x
  rw [improve_again, e1, e2, decide_eq_true (show ((((improveM g xs x).2).length : Nat) : Int) ≤ 2 by omega)]
  simp
/-! ### ways in a graph -/
def outsI (g : Graph) (a : Int) : List Int := (List.getD g.nodes (Int.toNat a) default).outs
inductive Pth (g : Graph) : Int → Int → Prop
  | one {a b : Int} : b ∈ outsI g a → Pth g a b
  | step {a b c : Int} : Pth g a b → c ∈ outsI g b → Pth g a c
def nodeI (g : Graph) (a : Int) : Prop := 0 ≤ a ∧ a < ((g.nodes.length : Nat) : Int)
section
variable {g : Graph} {a b c x : Int} {f os : List Int} {n i k : Nat}
theorem outsI_at (h : nodeI g a) : outsI g a = (g.nodes[Int.toNat a]'(by have := h; unfold nodeI at this; omega)).outs := by
  unfold outsI; rw [getD_at]
theorem mem_addOut {k : Int} : x ∈ addOut f k ↔ x ∈ f ∨ x = k := by
  unfold addOut
  split
  · rename_i h
    exact ⟨.inl, fun h' => h'.elim id fun e => e ▸ h⟩
  · simp
theorem mem_addOuts : ∀ {os f : List Int}, x ∈ addOuts f os ↔ x ∈ f ∨ x ∈ os
  | [], f => by simp [addOuts]
  | y :: os, f => by
    show x ∈ addOuts (addOut f y) os ↔ _
    rw [mem_addOuts, mem_addOut]; simp [or_assoc]
theorem addOut_app (f : List Int) (k : Int) : ∃ nw, addOut f k = f ++ nw := by
  unfold addOut
  split
  · exact ⟨[], by simp⟩
  · exact ⟨[k], rfl⟩
theorem addOuts_app : ∀ (os f : List Int), ∃ nw, addOuts f os = f ++ nw
  | [], f => ⟨[], by simp [addOuts]⟩
  | y :: os, f => by
    obtain ⟨p, hp⟩ := addOut_app f y
    obtain ⟨q, hq⟩ := addOuts_app os (addOut f y)
    exact ⟨p ++ q, by show addOuts (addOut f y) os = _; rw [hq, hp, List.append_assoc]⟩
theorem reachGo_sound : ∀ (n i : Nat) (f : List Int), (∀ x ∈ f, Pth g a x) → ∀ x ∈ reachGo g n i f, Pth g a x
  | 0, _, _, h => h
  | n + 1, i, f, h => by
    rw [reachGo]
    split
    · rename_i hi
      refine reachGo_sound n (i + 1) _ fun x hx => ?_
      rcases mem_addOuts.1 hx with hx | hx
      · exact h x hx
      · refine .step (h (List.getD f i default) ?_) hx
        rw [getD_at hi]; exact List.getElem_mem hi
    · exact h
theorem reachGo_full (hg : graphOk g = true) {f0 : List Int} (h0 : f0.length ≤ 2) : ∀ (n i : Nat) (f : List Int), 10 ≤ n + i → GoodF g f0 f → (∀ j (hj : j < f.length), j < i → ∀ y ∈ outsI g f[j], y ∈ f) →
    (∀ x ∈ f, x ∈ reachGo g n i f) ∧ ∀ x ∈ reachGo g n i f, ∀ y ∈ outsI g x, y ∈ reachGo g n i f
  | 0, i, f, hn, hG, hc => by
    have hl := goodF_len hG hg h0
    refine ⟨fun _ h => h, fun x hx y hy => ?_⟩
    have hx' : x ∈ f := hx
    obtain ⟨j, hj, rfl⟩ := List.getElem_of_mem hx'
    exact hc j hj (by omega) y hy
  | n + 1, i, f, hn, hG, hc => by
    rw [reachGo]
    split
    · rename_i hi
      have hb := hG.2 f[i] (List.getElem_mem hi)
      have hG2 : GoodF g f0 (addOuts f (List.getD g.nodes (Int.toNat (List.getD f i default)) default).outs) := by
        refine goodF_adds hG ?_
        rw [getD_at hi, getD_at (by omega)]
        exact gok_outs hg _
      obtain ⟨nw, hnw⟩ := addOuts_app (List.getD g.nodes (Int.toNat (List.getD f i default)) default).outs f
      have ih := reachGo_full hg h0 n (i + 1) _ (by omega) hG2 fun j hj hji y hy => by
        have hjf : j < f.length := by omega
        have hfj : (addOuts f (List.getD g.nodes (Int.toNat (List.getD f i default)) default).outs)[j] = f[j] := by
          simp only [hnw]; rw [List.getElem_append_left hjf]
        rw [hfj] at hy
        rcases Nat.lt_or_ge j i with h | h
        · exact mem_addOuts.2 (.inl (hc j hjf h y hy))
        · obtain rfl : j = i := by omega
          refine mem_addOuts.2 (.inr ?_)
          rw [getD_at hi]; exact hy
      exact ⟨fun x hx => ih.1 x (mem_addOuts.2 (.inl hx)), ih.2⟩
    · rename_i hi
      refine ⟨fun _ h => h, fun x hx y hy => ?_⟩
      obtain ⟨j, hj, rfl⟩ := List.getElem_of_mem hx
      exact hc j hj (by omega) y hy
theorem node_iff : isNodeM g a = true ↔ nodeI g a := by
  unfold isNodeM nodeI; rw [win_iff]; omega
theorem reaches_iff (hg : graphOk g = true) (ha : nodeI g a) : reaches g a b = true ↔ Pth g a b := by
  have hn := node_iff.2 ha
  have hlt : Int.toNat a < g.nodes.length := by unfold nodeI at ha; omega
  have h0 := outs_two (i := Int.toNat a) hg hlt
  have hfull := reachGo_full hg h0 10 0 (List.getD g.nodes (Int.toNat a) default).outs (by omega) (by rw [getD_at hlt]; exact (getD_at hlt) ▸ goodF_start hlt hg) fun j hj h => by omega
  simp only [reaches, hg, hn, Bool.and_self, Bool.true_and, decide_eq_true_eq]
  constructor
  · exact fun h => reachGo_sound 10 0 _ (fun x hx => .one hx) b h
  · intro h
    induction h with
    | one h => exact hfull.1 _ h
    | step _ h ih => exact hfull.2 _ ih _ h
theorem pth_node (hg : graphOk g = true) (ha : nodeI g a) (h : Pth g a b) : nodeI g b := by
  induction h with
  | one h => rw [outsI_at ha] at h; exact gok_outs hg _ _ h
  | step _ h ih => rw [outsI_at ih] at h; exact gok_outs hg _ _ h
/-- What an edge of a valid graph is like. -/
theorem edge_ok (hg : graphOk g = true) (ha : nodeI g a) (h : b ∈ outsI g a) : ((List.getD g.nodes (Int.toNat a) default).kind = 7 ∧ b ≤ a ∧ (kindAt g b = 5 ∨ kindAt g b = 6)) ∨ a < b := by
  have hlt : Int.toNat a < g.nodes.length := by unfold nodeI at ha; omega
  have hn := gok_at hg hlt
  simp only [nodeAtOk, Bool.and_eq_true] at hn
  rw [outsI_at ha] at h
  have h3 := List.all_eq_true.1 hn.2 b h
  rw [getD_at hlt]
  have h0 : ((Int.toNat a : Nat) : Int) = a := by unfold nodeI at ha; omega
  simp only [edgeBad, Bool.not_eq_true', Bool.or_eq_false_iff, Bool.and_eq_false_iff, decide_eq_false_iff_not, bne_eq_false_iff_eq, beq_eq_false_iff_ne, h0] at h3
  rcases h3.2 with ⟨h1, h2⟩
  rcases h2 with h2 | h2
  · left
    rcases h1 with h1 | h1
    · exact absurd h2 h1
    · exact ⟨h2, by omega, h1.2⟩
  · right; omega
theorem pth_up (hg : graphOk g = true) (ha : nodeI g a) (h : Pth g a b) : a < b ∨ ∃ u v, nodeI g u ∧ v ∈ outsI g u ∧ v ≤ u ∧ (u = a ∨ Pth g a u) ∧ (v = b ∨ Pth g v b) := by
  induction h with
  | @one b h =>
    rcases Int.lt_or_le a b with hl | hl
    · exact .inl hl
    · exact .inr ⟨a, b, ha, h, hl, .inl rfl, .inl rfl⟩
  | @step b c hp h ih =>
    rcases ih with ih | ⟨u, v, hu, huv, hle, h1, h2⟩
    · rcases Int.lt_or_le b c with hl | hl
      · exact .inl (by omega)
      · exact .inr ⟨b, c, pth_node hg ha hp, h, hl, .inr hp, .inl rfl⟩
    · refine .inr ⟨u, v, hu, huv, hle, h1, .inr ?_⟩
      rcases h2 with rfl | h2
      · exact .one h
      · exact .step h2 h
def backAt (g : Graph) (i : Nat) : Bool := ((List.getD g.nodes i default).kind == 7) && decide (0 < (((List.getD g.nodes i default).outs.length : Nat) : Int))
def gateAt (g : Graph) (k m : Nat) : Bool := (((List.getD g.nodes m default).kind == 5) || ((List.getD g.nodes m default).kind == 6)) && ((((m : Nat) : Int) == ((k : Nat) : Int)) || (reaches g ((k : Nat) : Int) ((m : Nat) : Int) && reaches g ((m : Nat) : Int) ((k : Nat) : Int)))
theorem back_any (hg : graphOk g = true) (ha : nodeI g a) (h : b ∈ outsI g a) (hl : b ≤ a) : (List.range g.nodes.length).any (backAt g) = true := by
  have hlt : Int.toNat a < g.nodes.length := by unfold nodeI at ha; omega
  refine List.any_eq_true.2 ⟨Int.toNat a, List.mem_range.2 hlt, ?_⟩
  rcases edge_ok hg ha h with h1 | h1
  · have : 0 < (outsI g a).length := List.length_pos_of_mem h
    simp only [backAt, h1.1, beq_self_eq_true, Bool.true_and, decide_eq_true_eq]
    unfold outsI at this; omega
  · omega
theorem loop_back (hb : (List.range g.nodes.length).any (backAt g) = false) : hasLoopM g = false := by
  simp only [hasLoopM, Bool.not_eq_false', allR, List.all_eq_true, List.mem_range, Bool.not_eq_true']
  intro k hk
  cases hr : reaches g ((k : Nat) : Int) ((k : Nat) : Int) with
  | false => rfl
  | true =>
    have hg : graphOk g = true := by simp only [reaches, Bool.and_eq_true] at hr; exact hr.1.1
    have hk' : nodeI g ((k : Nat) : Int) := ⟨by omega, by omega⟩
    rcases pth_up hg hk' ((reaches_iff hg hk').1 hr) with h | ⟨u, v, hu, huv, hle, _⟩
    · omega
    · rw [back_any hg hu huv hle] at hb; cases hb
theorem gate_any (hg : graphOk g = true) (hk : k < g.nodes.length) (hr : reaches g ((k : Nat) : Int) ((k : Nat) : Int) = true) : (List.range g.nodes.length).any (gateAt g k) = true := by
  have hk' : nodeI g ((k : Nat) : Int) := ⟨by omega, by omega⟩
  rcases pth_up hg hk' ((reaches_iff hg hk').1 hr) with h | ⟨u, v, hu, huv, hle, h1, h2⟩
  · omega
  · have hv : nodeI g v := pth_node hg hu (.one huv)
    have hkv : Pth g ((k : Nat) : Int) v := h1.elim (fun e => .one (e ▸ huv)) fun h => .step h huv
    have hv0 : ((Int.toNat v : Nat) : Int) = v := by unfold nodeI at hv; omega
    have hkind : kindAt g v = 5 ∨ kindAt g v = 6 := (edge_ok hg hu huv).elim (fun h => h.2.2) fun h => by omega
    refine List.any_eq_true.2 ⟨Int.toNat v, List.mem_range.2 (by unfold nodeI at hv; omega), ?_⟩
    unfold kindAt at hkind
    have e1 : (((List.getD g.nodes (Int.toNat v) default).kind == 5) || ((List.getD g.nodes (Int.toNat v) default).kind == 6)) = true := by
      rcases hkind with h | h <;> rw [h] <;> decide
    rw [gateAt, e1, hv0, Bool.true_and, (reaches_iff hg hk').2 hkv, Bool.true_and]
    rcases h2 with h2 | h2
    · rw [h2]; simp
    · rw [(reaches_iff hg hv).2 h2]; simp
theorem any_range {P : Nat → Bool} {n : Nat} {x : Bool} (h : x = (List.range n).any P) : (x || P n) = (List.range (n + 1)).any P := by
  rw [h, List.range_succ, List.any_append]; simp
def loopG : Graph := ⟨[⟨1, 0, 0, [1]⟩, ⟨5, 0, 0, [2]⟩, ⟨7, 0, 0, [1]⟩], 1, 1⟩
theorem loopG_1 : hasLoopM loopG = true := by decide +kernel
theorem loopG_2 : reaches loopG 1 0 = false := by decide +kernel
theorem graphs_fin {bk : Bool} (h : (graphOk g && decide (((k : Nat) : Int) < ((g.nodes.length : Nat) : Int))) = false) (hk : k ≤ g.nodes.length) (hb : bk = (List.range k).any (backAt g)) : (((bk || !(hasLoopM g)) && hasLoopM loopG) && !(reaches loopG 1 0)) = true := by
  rw [loopG_1, loopG_2]
  have : (bk || !(hasLoopM g)) = true := by
    cases hg : graphOk g with
    | false =>
      have : hasLoopM g = false := by
        simp only [hasLoopM, Bool.not_eq_false', allR, List.all_eq_true, Bool.not_eq_true', reaches, hg, Bool.false_and, implies_true]
      rw [this]; simp
    | true =>
      rw [hg, Bool.true_and, decide_eq_false_iff_not] at h
      obtain rfl : k = g.nodes.length := by omega
      cases bk with
      | true => rfl
      | false => rw [loop_back hb.symm]; rfl
  rw [this]; rfl
end
/-! ### what one record makes -/
section
variable {g : Graph} {cs : List Cell} {r q : Record} {x : Node} {a b : Int}
theorem changed_rg (hn : nodeOk x = true) (ha : win a 0 99 = true) (hb : win b 0 999 = true) : win (changedM x a b).1 0 99 = true ∧ win (changedM x a b).2.1 0 999 = true := by
  have h : (!(nodeOk x) || !(win a 0 99 && win b 0 999)) = false := by rw [hn, ha, hb]; rfl
  have ha' := win_iff.1 ha
  have hb' := win_iff.1 hb
  have hk : kindOk x = true := by simp only [nodeOk, Bool.and_eq_true] at hn; exact hn.1.1
  cases h2 : (x.kind == 2) with
  | true =>
    rw [ch_2 h h2]
    rw [node_2 h2, Bool.and_eq_true] at hk
    have := win_iff.1 hk.1
    refine ⟨ha, win_iff.2 ?_⟩
    dsimp only
    rw [wrap_in (by omega) (by omega)]
    split <;> omega
  | false =>
    cases h4 : (x.kind == 4) with
    | true =>
      rw [ch_4 h h4]
      rw [node_4 h4, Bool.and_eq_true] at hk
      have := win_iff.1 hk.1
      refine ⟨win_iff.2 ?_, hb⟩
      dsimp only
      rw [wrap_in (by omega) (by omega), Int.tmod_eq_emod_of_nonneg (by omega)]
      omega
    | false =>
      cases h3 : (x.kind == 3) with
      | true => rw [ch_3 h h3]; exact ⟨ha, hb⟩
      | false => rw [ch_o h h2 h4 h3]; exact ⟨ha, hb⟩
theorem step_bad (h : q ∈ (stepM g cs r).2.1) : stBad g r = false ∧ (stStamp g r).2 = true ∧ q ∈ stTo g r (stStamp g r).1 (stNode g r).outs.length := by
  cases hb : stBad g r with
  | true => rw [st_0 hb] at h; cases h
  | false =>
    refine ⟨rfl, ?_⟩
    rw [stepM, if_neg (nof hb)] at h
    split at h
    · cases h
    · split at h
      · cases h
      · dsimp only at h
        split at h
        · rename_i hs; exact ⟨hs, h⟩
        · cases h
theorem step_node (h : q ∈ (stepM g cs r).2.1) : 0 ≤ r.op ∧ Int.toNat r.op < g.nodes.length := by
  have := isNode_of (st_of (step_bad h).1).2
  exact ⟨this.1, this.2.2⟩
theorem step_out (h : q ∈ (stepM g cs r).2.1) : q.stamp = ⟨r.stamp.epoch, IntKind.i64.wrap (r.stamp.turn + if ((stNode g r).kind == 7) = true then 1 else 0)⟩ ∧ recordOk q = true := by
  obtain ⟨hb, hs, hq⟩ := step_bad h
  have hst := hb
  simp only [stBad, Bool.or_eq_false_iff, Bool.not_eq_false'] at hst
  obtain ⟨⟨hg, hr⟩, hn⟩ := hst
  have hi := isNode_of hn
  have hr' := hr
  simp only [recordOk, Bool.and_eq_true] at hr'
  have hso : stampOk r.stamp = true := hr'.1.2
  have hs2 := hso
  simp only [stampOk, Bool.and_eq_true] at hs2
  have h1 := win_iff.1 hs2.1
  have h2 := win_iff.1 hs2.2
  have hnd : nodeAtOk g (Int.toNat r.op) (stNode g r) = true := by rw [stNode, getD_at hi.2.2]; exact gok_at hg hi.2.2
  simp only [nodeAtOk, atOk, Bool.and_eq_true, Bool.not_eq_true', Bool.or_eq_false_iff, Bool.not_eq_false'] at hnd
  have hno := hnd.1.1
  have hrg := changed_rg hno hr'.2.1 hr'.2.2
  have hall : (stNode g r).outs.all (win · 0 7) = true := by simp only [nodeOk, Bool.and_eq_true] at hno; exact hno.2
  simp only [stTo, List.mem_map, List.take_length] at hq
  obtain ⟨n, hn, rfl⟩ := hq
  have hst : (stStamp g r).1 = ⟨r.stamp.epoch, IntKind.i64.wrap (r.stamp.turn + if ((stNode g r).kind == 7) = true then 1 else 0)⟩ ∧ stampOk (stStamp g r).1 = true := by
    cases hk : ((stNode g r).kind == 7) with
    | true =>
      rw [stStamp, if_pos hk] at hs ⊢
      rw [nextT] at hs ⊢
      split at hs
      · cases hs
      · rename_i hh
        rw [if_neg hh]
        simp only [Bool.or_eq_true, not_or, beq_iff_eq] at hh
        refine ⟨by rw [if_pos rfl, wrap_in (by omega) (by omega)], ?_⟩
        simp only [stampOk, Bool.and_eq_true]
        exact ⟨hs2.1, win_iff.2 (by have := hh.2; omega)⟩
    | false =>
      rw [stStamp, if_neg (nof hk)]
      refine ⟨?_, hso⟩
      rw [if_neg (by simp), wrap_in (by omega) (by omega), Int.add_zero]
  refine ⟨hst.1, ?_⟩
  simp only [recordOk, Bool.and_eq_true]
  exact ⟨⟨List.all_eq_true.1 hall n hn, hst.2⟩, hrg⟩
theorem capped_none (h : cappedM g r = true) : (stepM g cs r).2.1 = [] := by
  cases hq : (stepM g cs r).2.1 with
  | nil => rfl
  | cons q qs =>
    have hm : q ∈ (stepM g cs r).2.1 := by rw [hq]; simp
    obtain ⟨hb, hs, _⟩ := step_bad hm
    simp only [cappedM, nodeOf_two, Bool.and_eq_true, Bool.not_eq_true'] at h
    have hn := h.1.1.1.1.1
    have h7 : ((stNode g r).kind == 7) = true := by have := h.1.1.2; rw [nodeOf_1 hn] at this; exact this
    rw [stStamp, if_pos h7, h.2] at hs; cases hs
end
def twoG : Graph := ⟨[⟨1, 0, 0, [1]⟩, ⟨8, 0, 0, []⟩], 1, 1⟩
theorem steps_two : (stepM twoG [] ⟨0, ⟨0, 0⟩, 5, 0⟩).2.1 = [⟨1, ⟨0, 0⟩, 5, 0⟩] := by decide +kernel
theorem steps_fin {g : Graph} {cs : List Cell} {r : Record} {n : Nat} {xs : List Cell} {ys : List Record} : (((((((((n : Nat) : Int) == ((n : Nat) : Int)) && (decide (xs = xs))) && (decide (ys = ys))) && (((((stepM (⟨[(⟨1, 0, 0, [1]⟩ : Node), (⟨8, 0, 0, []⟩ : Node)], 1, 1⟩ : Graph) [] (⟨0, (⟨0, 0⟩ : Stamp), 5, 0⟩ : Record)).2.1).length : Nat) : Int) == 1)) && (decide ((List.getD ((stepM (⟨[(⟨1, 0, 0, [1]⟩ : Node), (⟨8, 0, 0, []⟩ : Node)], 1, 1⟩ : Graph) [] (⟨0, (⟨0, 0⟩ : Stamp), 5, 0⟩ : Record)).2.1) 0 default) = (⟨1, (⟨0, 0⟩ : Stamp), 5, 0⟩ : Record)))) && ((!(cappedM g r)) || (((((stepM g cs r).2.1).length : Nat) : Int) == 0)))) = true := by
  rw [show (stepM (⟨[(⟨1, 0, 0, [1]⟩ : Node), (⟨8, 0, 0, []⟩ : Node)], 1, 1⟩ : Graph) [] (⟨0, (⟨0, 0⟩ : Stamp), 5, 0⟩ : Record)).2.1 = [⟨1, ⟨0, 0⟩, 5, 0⟩] from steps_two]
  cases hc : cappedM g r with
  | false => simp
  | true => rw [capped_none hc]; simp
/-! ### a fixed point is closed -/
section
variable {g : Graph} {a b l xs : List Cell} {x y c m : Cell} {e : Int} {rs : List Record}
theorem nw_iff : nwP a x = true ↔ (leastM a x.op x.epoch x.key).2 = true ∧ (leastM a x.op x.epoch x.key).1 ≤ x.val := by
  simp only [nwP, Bool.not_eq_true', Bool.or_eq_false_iff, Bool.not_eq_false', decide_eq_false_iff_not, Int.not_lt]
theorem better_self (xs : List Cell) (x : Cell) : nwP (betterM xs x).1 x = true := nw_iff.2 (better_again xs x).2
theorem better_nw (h : nwP xs y = true) : nwP (betterM xs x).1 y = true := by
  have hy := nw_iff.1 h
  by_cases hs : y.op = x.op ∧ y.epoch = x.epoch ∧ y.key = x.key
  · cases hc : (betterM xs x).2 with
    | false => rw [better_no hc]; exact h
    | true =>
      have ho := better_own hc
      have hf : ((leastM xs x.op x.epoch x.key).2 && decide ((leastM xs x.op x.epoch x.key).1 ≤ x.val)) = false := by
        cases hq : ((leastM xs x.op x.epoch x.key).2 && decide ((leastM xs x.op x.epoch x.key).1 ≤ x.val))
        · rfl
        · rw [betterM_yes hq] at hc; cases hc
      rw [hs.1, hs.2.1, hs.2.2] at hy
      rw [hy.1, Bool.true_and, decide_eq_false_iff_not] at hf
      refine nw_iff.2 ?_
      rw [hs.1, hs.2.1, hs.2.2, ho]
      refine ⟨rfl, ?_⟩
      have := hy.2
      dsimp only; omega
  · refine nw_iff.2 ?_
    rw [better_other hs]; exact hy
theorem improve_1 : (improveM g b x).1 = if impBad g x = true then b else (betterM b x).1 := by
  unfold improveM
  split
  · rfl
  · split <;> rfl
theorem improve_nw (h : nwP b y = true) : nwP (improveM g b x).1 y = true := by
  rw [improve_1]; split
  · exact h
  · exact better_nw h
theorem improve_self (h : impBad g x = false) : nwP (improveM g b x).1 x = true := by
  rw [improve_1, if_neg (nof h)]; exact better_self b x
theorem putM_sub (h : c ∈ putM l x) : c ∈ l ∨ c = x := by
  unfold putM at h
  split at h
  · exact .inl h
  · unfold insM at h
    simp only [List.mem_append, List.mem_cons] at h
    rcases h with h | h | h
    · exact .inl (List.mem_of_mem_take h)
    · exact .inr h
    · exact .inl (List.mem_of_mem_drop h)
theorem better_sub (h : c ∈ (betterM b x).1) : c ∈ b ∨ (c = x ∧ (betterM b x).2 = true) := by
  unfold betterM at h ⊢
  split at h
  · exact .inl h
  · rename_i hn
    rcases putM_sub h with h | h
    · exact .inl (List.mem_filter.1 h).1
    · rw [if_neg hn]; exact .inr ⟨h, rfl⟩
theorem improve_more (hb : impBad g x = false) (h : (betterM b x).2 = true) : (improveM g b x).2 = (improveM g [] x).2 := by
  have h0 : (betterM [] x).2 = true := by rw [betterM_no (by simp [leastM, leastGo])]
  unfold improveM
  rw [if_neg (nof hb), if_neg (nof hb), h, h0]
  split <;> rfl
/-- What is handed on is valid. -/
theorem more_ok (hb : impBad g x = false) (hm : m ∈ (improveM g [] x).2) : impBad g m = false := by
  have hq := imp_of hb
  have hi := isNode_of hq.2
  unfold improveM at hm
  rw [if_neg (nof hb)] at hm
  split at hm
  · cases hm
  · have hno : nodeOk g.nodes[Int.toNat x.op] = true := by
      have := gok_at hq.1 hi.2.2
      simp only [nodeAtOk, atOk, Bool.and_eq_true, Bool.not_eq_true', Bool.or_eq_false_iff, Bool.not_eq_false'] at this
      exact this.1.1
    have hb' := hb
    simp only [impBad, Bool.or_eq_false_iff, Bool.not_eq_false', Bool.and_eq_true] at hb'
    have hrg := changed_rg hno hb'.2.1 hb'.2.2
    simp only [impTo, List.mem_map, List.take_length] at hm
    obtain ⟨n, hn, rfl⟩ := hm
    rw [getD_at hi.2.2] at hn
    have ho := gok_outs hq.1 hi.2.2 n hn
    have hnn : isNodeM g n = true := win_iff.2 (by omega)
    simp only [impBad, Bool.or_eq_false_iff, Bool.not_eq_false', Bool.and_eq_true]
    refine ⟨⟨⟨hq.1, hnn⟩, hb'.1.2⟩, ?_⟩
    rw [impCh, getD_at hi.2.2]; exact hrg
/-- What holds of a table and a list still to be worked on. -/
def FInv (g : Graph) (b l : List Cell) : Prop := (∀ c ∈ b, impBad g c = false ∧ ∀ m ∈ (improveM g [] c).2, nwP b m = true ∨ m ∈ l) ∧ ∀ x ∈ l, impBad g x = false
theorem FInv.step (h : FInv g b (x :: l)) : FInv g (improveM g b x).1 (l ++ (improveM g b x).2) := by
  have hx := h.2 x (by simp)
  have hle : ∀ m ∈ (improveM g b x).2, m ∈ (improveM g [] x).2 := fun m hm => by
    cases hc : (betterM b x).2 with
    | true => rw [← improve_more hx hc]; exact hm
    | false =>
      unfold improveM at hm
      rw [if_neg (nof hx), hc] at hm
      simp at hm
  refine ⟨fun c hc => ?_, fun y hy => ?_⟩
  · have old : c ∈ b → impBad g c = false ∧ ∀ m ∈ (improveM g [] c).2, nwP (improveM g b x).1 m = true ∨ m ∈ l ++ (improveM g b x).2 := fun hcb => by
      refine ⟨(h.1 c hcb).1, fun m hm => ?_⟩
      rcases (h.1 c hcb).2 m hm with h1 | h1
      · exact .inl (improve_nw h1)
      · rcases List.mem_cons.1 h1 with rfl | h1
        · exact .inl (improve_self hx)
        · exact .inr (List.mem_append.2 (.inl h1))
    rw [improve_1, if_neg (nof hx)] at hc
    rcases better_sub hc with hc | ⟨rfl, hc⟩
    · exact old hc
    · exact ⟨hx, fun m hm => .inr (List.mem_append.2 (.inr (by rw [improve_more hx hc]; exact hm)))⟩
  · rcases List.mem_append.1 hy with hy | hy
    · exact h.2 y (by simp [hy])
    · exact more_ok hx (hle y hy)
theorem fixGo_inv (g : Graph) (b l : List Cell) (h : FInv g b l) : FInv g (fixGo g b l) [] ∧ (∀ y, nwP b y = true → nwP (fixGo g b l) y = true) ∧ ∀ x ∈ l, nwP (fixGo g b l) x = true := by
  induction b, l using fixGo.induct g with
  | case1 b => rw [fixGo]; exact ⟨h, fun _ h => h, fun x hx => by cases hx⟩
  | case2 b x l ih =>
    rw [fixGo]
    obtain ⟨h1, h2, h3⟩ := ih h.step
    refine ⟨h1, fun y hy => h2 y (improve_nw hy), fun y hy => ?_⟩
    rcases List.mem_cons.1 hy with rfl | hy
    · exact h2 _ (improve_self (h.2 _ (by simp)))
    · exact h3 y (List.mem_append.2 (.inl hy))
theorem fixIn_ok (hg : graphOk g = true) (hx : x ∈ fixIn e rs) : impBad g x = false := by
  simp only [fixIn, List.mem_map, List.mem_filter, Bool.and_eq_true] at hx
  obtain ⟨r, ⟨_, he, hr⟩, rfl⟩ := hx
  simp only [recordOk, stampOk, Bool.and_eq_true] at hr
  have hlen := gok_len hg
  have hn : isNodeM g 0 = true := win_iff.2 (by omega)
  simp only [ofE, beq_iff_eq] at he
  simp only [impBad, Bool.or_eq_false_iff, Bool.not_eq_false', Bool.and_eq_true]
  exact ⟨⟨⟨hg, hn⟩, he ▸ hr.1.2.1⟩, hr.2⟩
theorem fix_inv (hg : graphOk g = true) : FInv g (fixM g e rs) [] ∧ ∀ x ∈ fixIn e rs, nwP (fixM g e rs) x = true := by
  have h := fixGo_inv g [] (fixIn e rs) ⟨(fun c hc => by cases hc), fun x hx => fixIn_ok hg hx⟩
  exact ⟨h.1, h.2.2⟩
theorem fix_closed (hg : graphOk g = true) : isClosedM g (fixM g e rs) = true := by
  simp only [isClosedM, hg, Bool.true_and, List.all_eq_true, icP]
  exact fun x hx m hm => ((fix_inv hg).1.1 x hx |>.2 m hm).elim id fun h => by cases h
theorem fix_nil (hg : graphOk g = false) : fixM g e rs = [] := by
  have : ∀ l, fixGo g [] l = [] := fun l => by
    induction l with
    | nil => rw [fixGo]
    | cons x l ih =>
      have hb : impBad g x = true := by simp [impBad, hg]
      rw [fixGo, imp_0 hb]; simpa using ih
  exact this _
def fixQ (e : Int) (r : Record) : Bool := ((r.stamp.epoch == e) && recordOk r) && decide (0 ≤ e)
theorem fixQ_in : (rs.filter (fixQ e)).map (fun r => (⟨0, e, r.key, r.val⟩ : Cell)) = fixIn e rs := by
  unfold fixIn
  congr 1
  refine List.filter_congr fun r _ => ?_
  cases h1 : (ofE e r && recordOk r) with
  | false =>
    have h1' : (r.stamp.epoch == e && recordOk r) = false := h1
    rw [fixQ, h1']; rfl
  | true =>
    have h1' : (r.stamp.epoch == e && recordOk r) = true := h1
    rw [fixQ, h1', Bool.true_and, decide_eq_true_eq]
    simp only [Bool.and_eq_true, ofE, beq_iff_eq, recordOk, stampOk] at h1
    have := win_iff.1 h1.2.1.2.1
    omega
end
theorem two_fix : ((fixM twoG 0 [⟨0, ⟨0, 0⟩, 5, 0⟩]).filter (outOf twoG)).length = 1 := by
  have e1 : fixIn 0 [⟨0, ⟨0, 0⟩, 5, 0⟩] = [⟨0, 0, 5, 0⟩] := by decide +kernel
  have e2 : improveM twoG [] ⟨0, 0, 5, 0⟩ = ([⟨0, 0, 5, 0⟩], [⟨1, 0, 5, 0⟩]) := by decide +kernel
  have e3 : improveM twoG [⟨0, 0, 5, 0⟩] ⟨1, 0, 5, 0⟩ = ([⟨0, 0, 5, 0⟩, ⟨1, 0, 5, 0⟩], []) := by decide +kernel
  have : fixM twoG 0 [⟨0, ⟨0, 0⟩, 5, 0⟩] = [⟨0, 0, 5, 0⟩, ⟨1, 0, 5, 0⟩] := by
    rw [fixM, e1, fixGo, e2]
    simp only [List.nil_append]
    rw [fixGo, e3]
    simp only [List.append_nil]
    rw [fixGo]
  rw [this]; decide +kernel
theorem fixed_no {g : Graph} {e : Int} {rs : List Record} (hg : (!(graphOk g)) = true) : (((((fixM g e rs).length : Nat) : Int) == 0) && (((((fixM twoG 0 [⟨0, ⟨0, 0⟩, 5, 0⟩]).filter (outOf twoG)).length : Nat) : Int) == 1)) = true := by
  rw [two_fix, fix_nil (by simpa using hg)]; rfl
theorem fixed_yes {g : Graph} {e : Int} {rs : List Record} {k : Nat} (hg : (!(graphOk g)) = false) (hk : ¬ k < rs.length) : ((isClosedM g (fixM g e rs) && (fixT e (fixQ e) rs k).all (nwP (fixM g e rs))) && (((((fixM twoG 0 [⟨0, ⟨0, 0⟩, 5, 0⟩]).filter (outOf twoG)).length : Nat) : Int) == 1)) = true := by
  have hg' : graphOk g = true := by simpa using hg
  rw [two_fix, fix_closed hg', fixT, List.take_of_length_le (by omega), fixQ_in, List.all_eq_true.2 (fix_inv hg').2]; rfl
/-! ### drawn workers -/
section
variable {g : Graph} {x : Worker} {r : Record} {k : Nat}
theorem wl_take (h : cntWorker x ≤ 60 + 4 * k) : cntWorker (takeM g x).1 ≤ 60 + 4 * (k + 1) := by have := @cnt_take g x; omega
theorem wl_recv (h : cntWorker x ≤ 60 + 4 * k) : cntWorker (recvW x r) ≤ 60 + 4 * (k + 1) := by have := cnt_recv x r; omega
theorem wl_unst (h : cntWorker x ≤ 60 + 4 * k) : cntWorker (unstM x).1 ≤ 60 + 4 * (k + 1) := by have := cnt_unst x; omega
theorem wl_work (h : cntWorker x ≤ 60 + 4 * k) : cntWorker (workM g x).1 ≤ 60 + 4 * (k + 1) := by have := @cnt_work g x; omega
theorem ws_take (h : x.sums.length = 4) : (takeM g x).1.sums.length = 4 := by unfold takeM; split <;> exact h
theorem ws_recv (h : x.sums.length = 4) : (recvW x r).sums.length = 4 := by unfold recvW keptW; split <;> simpa using h
theorem ws_unst (h : x.sums.length = 4) : (unstM x).1.sums.length = 4 := by unfold unstM; split <;> exact h
theorem ws_work (h : x.sums.length = 4) : (workM g x).1.sums.length = 4 := by unfold workM; split <;> exact h
end
/-! ### what comes in -/
def oneG : Graph := ⟨[⟨1, 0, 0, []⟩], 1, 1⟩
theorem oneG_ok : graphOk oneG = true := by decide +kernel
theorem one_ok {K : Int} (h : 0 ≤ K ∧ K ≤ 99) : workerOk oneG (workerNew [⟨0, ⟨0, 0⟩, K, 0⟩]) = true := by
  have hk : win K 0 99 = true := win_iff.2 h
  have h1 : opOk oneG ⟨0, ⟨0, 0⟩, K, 0⟩ = true := by
    simp only [opOk, recordOk, hk]; decide +kernel
  have h2 : inAt [(⟨0, ⟨0, 0⟩, K, 0⟩ : Record)] 0 = true := by
    rw [inAt_at (by simp)]; rfl
  have h3 : allR [(⟨0, ⟨0, 0⟩, K, 0⟩ : Record)].length (fun j => inAt [⟨0, ⟨0, 0⟩, K, 0⟩] j) = true := allR_s (n := 0) rfl h2
  have h4 : [(⟨0, ⟨0, 0⟩, K, 0⟩ : Record)].all (opOk oneG) = true := by rw [List.all_cons, h1]; rfl
  simp only [workerOk, workerNew, h4, h3]
  decide +kernel
theorem take_one {K : Int} (h : 0 ≤ K ∧ K ≤ 99) : takeM oneG (workerNew [⟨0, ⟨0, 0⟩, K, 0⟩]) = (⟨[⟨0, ⟨0, 0⟩, K, 0⟩], [], [], [], [0, 0, 0, 0], [false, false, false, false], [false, false, false, false], []⟩, true) := by
  have hb : takeBad oneG (workerNew [⟨0, ⟨0, 0⟩, K, 0⟩]) = false := by
    simp only [takeBad, oneG_ok, one_ok h]; rfl
  rw [takeM, if_neg (nof hb)]; rfl
theorem take_two {y : Worker} {r : Record} {g : Graph} : (takeM g (keptW y r)).2 = false := by
  have hb : takeBad g (keptW y r) = true := by
    have : (keptW y r).queue.length = y.queue.length + 1 := by simp [keptW]
    simp only [takeBad, this, Bool.or_eq_true, decide_eq_true_eq]
    exact .inl (.inr (by omega))
  rw [takeM, if_pos hb]
theorem take_facts1 {g : Graph} {x : Worker} : ((takeM g x).2 = true → x.queue.length = 0 ∧ x.staged.length = 0) ∧ ((takeM g x).2 = false → (takeM g x).1 = x) := by
  unfold takeM
  split
  · exact ⟨(fun h => by cases h), fun _ => rfl⟩
  · rename_i hb
    simp only [takeBad, Bool.or_eq_true, not_or, decide_eq_true_eq] at hb
    exact ⟨fun _ => by omega, fun h => by cases h⟩
theorem back_fin (g : Graph) (x : Worker) {K L : Int} (h : 0 ≤ K ∧ K ≤ 99) (hL : Int.tmod L 100 = K) : (((((((!((takeM g x).2)) || ((((x.queue.length : Nat) : Int) == 0) && (((x.staged.length : Nat) : Int) == 0))) && (((takeM g x).2) || (decide (((takeM g x).1) = x)))) && ((takeM (⟨[(⟨1, 0, 0, []⟩ : Node)], 1, 1⟩ : Graph) (workerNew [(⟨0, (⟨0, 0⟩ : Stamp), K, 0⟩ : Record)])).2)) && ((((((takeM (⟨[(⟨1, 0, 0, []⟩ : Node)], 1, 1⟩ : Graph) (workerNew [(⟨0, (⟨0, 0⟩ : Stamp), K, 0⟩ : Record)])).1).queue).length : Nat) : Int) == 1)) && (((List.getD (((takeM (⟨[(⟨1, 0, 0, []⟩ : Node)], 1, 1⟩ : Graph) (workerNew [(⟨0, (⟨0, 0⟩ : Stamp), K, 0⟩ : Record)])).1).queue) 0 default).key) == (Int.tmod L 100))) && (!((takeM (⟨[(⟨1, 0, 0, []⟩ : Node)], 1, 1⟩ : Graph) (keptW (workerNew [(⟨0, (⟨0, 0⟩ : Stamp), K, 0⟩ : Record)]) (⟨0, (⟨0, 0⟩ : Stamp), 0, 0⟩ : Record))).2))) = true := by
  rw [take_two, hL, show takeM (⟨[(⟨1, 0, 0, []⟩ : Node)], 1, 1⟩ : Graph) (workerNew [(⟨0, (⟨0, 0⟩ : Stamp), K, 0⟩ : Record)]) = _ from take_one h]
  have hf := @take_facts1 g x
  cases ht : (takeM g x).2 with
  | true => have h1 := hf.1 ht; simp [h1.1, h1.2]
  | false => rw [hf.2 ht]; simp
/-! ### what a worker does -/
section
variable {g : Graph} {x : Worker} {q r : Record} {cs : List Cell}
theorem step_ok (h : q ∈ (stepM g cs r).2.1) : opOk g q = true := by
  obtain ⟨hb, _, hq⟩ := step_bad h
  have hs := st_of hb
  have hi := isNode_of hs.2
  simp only [stTo, List.mem_map, List.take_length] at hq
  obtain ⟨n, hn, hnq⟩ := hq
  rw [stNode, getD_at hi.2.2] at hn
  have ho := gok_outs hs.1 hi.2.2 n hn
  have hn : isNodeM g q.op = true := by rw [← hnq]; exact win_iff.2 (by dsimp only; omega)
  simp only [opOk, (step_out h).2, hn]; rfl
theorem step_adj (h : (adj cs).all cellLt = true) : (adj (stepM g cs r).1).all cellLt = true := by
  unfold stepM
  split
  · exact h
  · split
    · exact h
    · split <;> exact recallM_adj h
theorem work_facts : ((workM g x).2 = true → 0 < x.queue.length ∧ (workM g x).1.queue = x.queue.drop 1 ∧ workerOk g (workM g x).1 = true) ∧ ((workM g x).2 = false → (workM g x).1 = x) := by
  cases hb : workBad g x with
  | true => rw [work_no hb]; exact ⟨(fun h => by cases h), fun _ => rfl⟩
  | false =>
    have hl := work_lt hb
    have hb' := hb
    simp only [workBad, Bool.or_eq_false_iff, Bool.not_eq_false'] at hb'
    have hw := hb'.1.1.2
    rw [workM, if_neg (nof hb)]
    refine ⟨fun _ => ⟨hl, rfl, ?_⟩, fun h => by cases h⟩
    simp only [workerOk, Bool.and_eq_true] at hw ⊢
    obtain ⟨⟨⟨⟨⟨⟨⟨⟨⟨h1, h2⟩, h3⟩, h4⟩, h5⟩, h6⟩, h7⟩, h8⟩, h9⟩, h10⟩ := hw
    refine ⟨⟨⟨⟨⟨⟨⟨⟨⟨?_, ?_⟩, h3⟩, step_adj h4⟩, h5⟩, h6⟩, h7⟩, ?_⟩, h9⟩, h10⟩
    · exact List.all_eq_true.2 fun y hy => List.all_eq_true.1 h1 y (List.mem_of_mem_drop hy)
    · exact List.all_eq_true.2 fun y hy => step_ok hy
    · split
      · rw [List.length_set]; exact h8
      · exact h8
theorem take_facts2 : (takeM g x).2 = true → x.queue.length = 0 ∧ 0 < x.inputs.length ∧ (takeM g x).1.inputs = x.inputs.drop 1 ∧ (takeM g x).1.queue.length = x.queue.length + 1 := by
  unfold takeM
  split
  · exact fun h => by cases h
  · rename_i hb
    simp only [takeBad, Bool.or_eq_true, not_or, decide_eq_true_eq, beq_iff_eq] at hb
    exact fun _ => ⟨by omega, by omega, rfl, by simp⟩
end
theorem working_fin (g : Graph) (x y : Worker) {r : Record} (hx : cntWorker x ≤ 200) (hy : cntWorker y ≤ 200) : ((((((!((workM g x).2)) || (((((((workM g x).1).queue).length : Nat) : Int) == (IntKind.i64.wrap (((x.queue.length : Nat) : Int) - 1))) && (workerOk g ((workM g x).1)))) && ((!((takeM g x).2)) || (((((((takeM g x).1).inputs).length : Nat) : Int) == (IntKind.i64.wrap (((x.inputs.length : Nat) : Int) - 1))) && ((((((takeM g x).1).queue).length : Nat) : Int) == 1)))) && (((workM g x).2) || (decide (((workM g x).1) = x)))) && (((((keptW y r).queue).length : Nat) : Int) == (IntKind.i64.wrap (((y.queue.length : Nat) : Int) + 1)))) && (idle (workerNew []))) = true := by
  have e1 : ((!((workM g x).2)) || (((((((workM g x).1).queue).length : Nat) : Int) == (IntKind.i64.wrap (((x.queue.length : Nat) : Int) - 1))) && (workerOk g ((workM g x).1)))) = true := by
    cases h : (workM g x).2 with
    | false => rfl
    | true =>
      have hf := work_facts.1 h
      have hc : x.queue.length ≤ 200 := by unfold cntWorker at hx; omega
      rw [hf.2.2, hf.2.1, List.length_drop, wrap_in (by omega) (by omega)]
      simp; omega
  have e2 : ((!((takeM g x).2)) || (((((((takeM g x).1).inputs).length : Nat) : Int) == (IntKind.i64.wrap (((x.inputs.length : Nat) : Int) - 1))) && ((((((takeM g x).1).queue).length : Nat) : Int) == 1))) = true := by
    cases h : (takeM g x).2 with
    | false => rfl
    | true =>
      have hf := take_facts2 h
      have hc : x.inputs.length ≤ 200 := by unfold cntWorker at hx; omega
      rw [hf.2.2.1, hf.2.2.2, hf.1, List.length_drop, wrap_in (by omega) (by omega)]
      simp; omega
  have e3 : (((workM g x).2) || (decide (((workM g x).1) = x))) = true := by
    cases h : (workM g x).2 with
    | true => rfl
    | false => rw [work_facts.2 h]; simp
  have e4 : ((((keptW y r).queue).length : Nat) : Int) = IntKind.i64.wrap (((y.queue.length : Nat) : Int) + 1) := by
    have hc : y.queue.length ≤ 200 := by unfold cntWorker at hy; omega
    rw [wrap_in (by omega) (by omega)]
    simp [keptW]
  rw [e1, e2, e3, e4, show idle (workerNew []) = true from rfl]
  simp
/-! ### tables of counts -/
def stampOrd (a b : Stamp) : Int := cmpL [a.epoch, a.turn] [b.epoch, b.turn]
theorem stampOrd_eq (a b : Stamp) : stampOrd a b = if ordI a.epoch b.epoch = 0 then ordI a.turn b.turn else ordI a.epoch b.epoch := by
  simp only [stampOrd, cmpL]
  split
  · split <;> simp_all
  · rfl
theorem stampOrd_1 {a b : Stamp} (h : (ordI a.epoch b.epoch != 0) = true) : stampOrd a b = ordI a.epoch b.epoch := by
  rw [stampOrd_eq, if_neg (by simpa using h)]
theorem stampOrd_2 {a b : Stamp} (h : (ordI a.epoch b.epoch != 0) = false) : stampOrd a b = ordI a.turn b.turn := by
  rw [stampOrd_eq, if_pos (by simpa using h)]
def recOrd (a b : Record) : Int := if (stampOrd a.stamp b.stamp != 0) = true then stampOrd a.stamp b.stamp else cmpL [a.op, a.key, a.val] [b.op, b.key, b.val]
theorem recOrd_1 {a b : Record} (h : (stampOrd a.stamp b.stamp != 0) = true) : recOrd a b = stampOrd a.stamp b.stamp := if_pos h
theorem recOrd_2 {a b : Record} (h : (stampOrd a.stamp b.stamp != 0) = false) : recOrd a b = cmpL [a.op, a.key, a.val] [b.op, b.key, b.val] := if_neg (by rw [h]; simp)
def countAt : List Count → Stamp → Int
  | [], _ => 0
  | x :: t, s => if x.stamp = s then x.n else countAt t s
section
variable {t : List Count} {s : Stamp} {k : Nat}
theorem countAt_drop (h : k < t.length) : countAt (t.drop k) s = if t[k].stamp = s then t[k].n else countAt (t.drop (k + 1)) s := by
  rw [List.drop_eq_getElem_cons h]; rfl
theorem countAt_step (hI : countAt (t.drop k) s = countAt t s) (h : k < t.length) (hc : ¬ t[k].stamp = s) : countAt (t.drop (k + 1)) s = countAt t s := by
  rw [← hI, countAt_drop h, if_neg hc]
theorem countAt_yes (hI : countAt (t.drop k) s = countAt t s) (h : k < t.length) (hc : t[k].stamp = s) : countAt t s = t[k].n := by
  rw [← hI, countAt_drop h, if_pos hc]
theorem countAt_no (hI : countAt (t.drop k) s = countAt t s) (h : t.length ≤ k) : countAt t s = 0 := by
  rw [← hI, List.drop_of_length_le h]; rfl
end
def cOkAt (t : List Count) (j : Nat) : Bool :=
  !((((!(stampOk (List.getD t j default).stamp)) || (!(win (List.getD t j default).n (-1000000) 1000000))) || ((List.getD t j default).n == 0)) || (decide (0 < ((j : Nat) : Int)) && decide (0 ≤ stampOrd (List.getD t (j - 1) default).stamp (List.getD t j default).stamp)))
theorem cOkAt_at {t : List Count} {j : Nat} (h : j < t.length) : cOkAt t j = !((((!(stampOk t[j].stamp)) || (!(win t[j].n (-1000000) 1000000))) || (t[j].n == 0)) || (decide (0 < ((j : Nat) : Int)) && decide (0 ≤ stampOrd (List.getD t (j - 1) default).stamp t[j].stamp))) := by
  simp only [cOkAt, getD_at h]
def countsOk (t : List Count) : Bool := allR t.length (cOkAt t)
def adjStep (s : Stamp) (m : Int) (o : List Count × Bool) (x : Count) : List Count × Bool :=
  (if x.stamp ≠ s then (if (!o.2 && decide (stampOrd s x.stamp ≤ 0)) = true then o.1 ++ [⟨s, m⟩] else o.1) ++ [x] else (if (!o.2 && decide (stampOrd s x.stamp ≤ 0)) = true then o.1 ++ [⟨s, m⟩] else o.1),
    if (!o.2 && decide (stampOrd s x.stamp ≤ 0)) = true then true else o.2)
def adjRun (s : Stamp) (m : Int) (t : List Count) : List Count × Bool := t.foldl (adjStep s m) ([], m == 0)
def adjM (t : List Count) (s : Stamp) (m : Int) : List Count := if (!(adjRun s m t).2) = true then (adjRun s m t).1 ++ [⟨s, m⟩] else (adjRun s m t).1
def adjBad (t : List Count) (s : Stamp) (n : Int) : Bool := ((!(countsOk t)) || (!(stampOk s))) || (!(win n (-2000000) 2000000))
def adjustM (t : List Count) (s : Stamp) (n : Int) : List Count × Bool :=
  if adjBad t s n = true then (t, false) else if (!(win (IntKind.i64.wrap (countAt t s + n)) (-1000000) 1000000)) = true then (t, false) else (adjM t s (IntKind.i64.wrap (countAt t s + n)), true)
def d2n : Bool → Nat
  | true => 0
  | false => 1
theorem d2n_le (b : Bool) : d2n b ≤ 1 := by cases b <;> simp [d2n]
section
variable {t : List Count} {s : Stamp} {m n : Int} {k : Nat} {o : List Count × Bool}
theorem adjStep_len (x : Count) : (adjStep s m o x).1.length + d2n (adjStep s m o x).2 ≤ o.1.length + d2n o.2 + 1 := by
  obtain ⟨l, d⟩ := o
  cases d <;> cases hle : decide (stampOrd s x.stamp ≤ 0) <;> simp only [adjStep, hle] <;> split <;> simp [d2n]
theorem adjFold_len : ∀ (t : List Count) (o : List Count × Bool), (t.foldl (adjStep s m) o).1.length + d2n (t.foldl (adjStep s m) o).2 ≤ o.1.length + d2n o.2 + t.length
  | [], o => Nat.le_refl _
  | x :: t, o => by
    have h1 := adjFold_len t (adjStep s m o x)
    have h2 := @adjStep_len s m o x
    simp only [List.foldl_cons, List.length_cons]
    omega
theorem adjM_len : (adjM t s m).length ≤ t.length + 1 := by
  have h := @adjFold_len s m t ([], m == 0)
  have hd : d2n (m == 0) ≤ 1 := d2n_le _
  unfold adjM adjRun
  simp only [List.length_nil] at h
  split
  · rename_i hq
    have : d2n (t.foldl (adjStep s m) ([], m == 0)).2 = 1 := by rw [show (t.foldl (adjStep s m) ([], m == 0)).2 = false from by simpa using hq]; rfl
    simp only [List.length_append, List.length_cons, List.length_nil]
    omega
  · omega
theorem adjust_len : (adjustM t s n).1.length ≤ t.length + 1 := by
  unfold adjustM
  split
  · exact Nat.le_succ _
  · split
    · exact Nat.le_succ _
    · exact adjM_len
theorem adjRun_len (h : k ≤ t.length) : (adjRun s m (t.take k)).1.length ≤ k + 1 := by
  have h1 := @adjFold_len s m (t.take k) ([], m == 0)
  have hd : d2n (m == 0) ≤ 1 := d2n_le _
  unfold adjRun
  simp only [List.length_nil, List.length_take] at *
  omega
theorem adj_0 (h : adjBad t s n = true) : adjustM t s n = (t, false) := by rw [adjustM, if_pos h]
theorem adj_1 (h : adjBad t s n = false) (h2 : (!(win (IntKind.i64.wrap (countAt t s + n)) (-1000000) 1000000)) = true) : adjustM t s n = (t, false) := by rw [adjustM, if_neg (nof h), if_pos h2]
theorem adj_2 (h : adjBad t s n = false) (h2 : (!(win (IntKind.i64.wrap (countAt t s + n)) (-1000000) 1000000)) = false) : adjustM t s n = (adjM t s (IntKind.i64.wrap (countAt t s + n)), true) := by rw [adjustM, if_neg (nof h), if_neg (nof h2)]
theorem run_0 : adjRun s m (t.take 0) = ([], m == 0) := rfl
theorem run_step (h : k < t.length) (ho : adjRun s m (t.take k) = o) : adjRun s m (t.take (k + 1)) = adjStep s m o t[k] := by
  unfold adjRun at *
  rw [List.take_succ_eq_append_getElem h, List.foldl_append, ho]; rfl
end
theorem adjStep_c {ls : List Count} {s : Stamp} {m : Int} {dn b4 b5 : Bool} {t : List Count} {k : Nat} (hk : k < t.length) (h4 : (!dn && decide (stampOrd s (List.getD t k default).stamp ≤ 0)) = b4) (h5 : (!(decide (t[k].stamp = s))) = b5) :
    adjStep s m (ls, dn) t[k] = ((bif b5 then (bif b4 then ls ++ [⟨s, m⟩] else ls) ++ [t[k]] else (bif b4 then ls ++ [⟨s, m⟩] else ls)), bif b4 then true else dn) := by
  rw [getD_at hk] at h4
  subst h4 h5
  unfold adjStep
  dsimp only
  by_cases h : t[k].stamp = s
  · rw [if_neg (by simpa using h), decide_eq_true h]
    cases (!dn && decide (stampOrd s t[k].stamp ≤ 0)) <;> rfl
  · rw [if_pos h, decide_eq_false h]
    cases (!dn && decide (stampOrd s t[k].stamp ≤ 0)) <;> rfl
theorem adjM_yes {t ls : List Count} {s : Stamp} {m : Int} {k : Nat} {dn : Bool} (h : adjRun s m (t.take k) = (ls, dn)) (hk : t.length ≤ k) (hd : (!dn) = true) : adjM t s m = ls ++ [⟨s, m⟩] := by
  rw [List.take_of_length_le hk] at h
  rw [adjM, h, if_pos hd]
theorem adjM_no {t ls : List Count} {s : Stamp} {m : Int} {k : Nat} {dn : Bool} (h : adjRun s m (t.take k) = (ls, dn)) (hk : t.length ≤ k) (hd : (!dn) = false) : adjM t s m = ls := by
  rw [List.take_of_length_le hk] at h
  rw [adjM, h, if_neg (nof hd)]
/-! ### what the records of a list come to -/
def cntTo (rs : List Record) : List Count := rs.foldl (fun t r => (adjustM t r.stamp 1).1) []
def runStep (o : List Count) (r : Record) : List Count :=
  if stampOk r.stamp = true then
    if 0 < o.length ∧ (List.getD o (o.length - 1) default).stamp = r.stamp then o.set (o.length - 1) ⟨(List.getD o (o.length - 1) default).stamp, IntKind.i64.wrap ((List.getD o (o.length - 1) default).n + 1)⟩ else o ++ [⟨r.stamp, 1⟩]
  else o
def runTo (rs : List Record) : List Count := rs.foldl runStep []
theorem cntTo_len (rs : List Record) : (cntTo rs).length ≤ rs.length := by
  have : ∀ (rs : List Record) (t : List Count), (rs.foldl (fun t r => (adjustM t r.stamp 1).1) t).length ≤ t.length + rs.length := by
    intro rs
    induction rs with
    | nil => intro t; simp
    | cons r rs ih =>
      intro t
      have h1 := ih (adjustM t r.stamp 1).1
      have h2 := @adjust_len t r.stamp 1
      simp only [List.foldl_cons, List.length_cons]
      omega
  have h := this rs []
  rw [List.length_nil, Nat.zero_add] at h
  exact h
theorem cntTo_step {rs : List Record} {k : Nat} (h : k < rs.length) : cntTo (rs.take (k + 1)) = (adjustM (cntTo (rs.take k)) rs[k].stamp 1).1 := by
  unfold cntTo; rw [List.take_succ_eq_append_getElem h, List.foldl_append]; rfl
theorem runTo_step {rs : List Record} {k : Nat} (h : k < rs.length) : runTo (rs.take (k + 1)) = runStep (runTo (rs.take k)) rs[k] := by
  unfold runTo; rw [List.take_succ_eq_append_getElem h, List.foldl_append]; rfl
theorem runStep_len (o : List Count) (r : Record) : (runStep o r).length ≤ o.length + 1 := by
  unfold runStep
  split
  · split <;> simp
  · exact Nat.le_succ _
theorem runTo_len (rs : List Record) : (runTo rs).length ≤ rs.length := by
  have : ∀ (rs : List Record) (t : List Count), (rs.foldl runStep t).length ≤ t.length + rs.length := by
    intro rs
    induction rs with
    | nil => intro t; simp
    | cons r rs ih =>
      intro t
      have h1 := ih (runStep t r)
      have h2 := runStep_len t r
      simp only [List.foldl_cons, List.length_cons]
      omega
  have h := this rs []
  rw [List.length_nil, Nat.zero_add] at h
  exact h
/-! ### the order of records, and the sort -/
theorem ordI_neg (a b : Int) : ordI b a = -ordI a b := by unfold ordI; split <;> split <;> (try split) <;> (try split) <;> omega
theorem ordI_zero {a b : Int} : ordI a b = 0 ↔ a = b := by unfold ordI; split <;> (try split) <;> omega
theorem ordI_lt {a b : Int} : ordI a b < 0 ↔ a < b := by unfold ordI; split <;> (try split) <;> omega
theorem cmpL_neg : ∀ xs ys : List Int, cmpL ys xs = -cmpL xs ys
  | [], [] => rfl
  | [], _ :: _ => rfl
  | _ :: _, [] => rfl
  | x :: xs, y :: ys => by
    have h := cmpL_neg xs ys
    have h2 := ordI_neg x y
    simp only [cmpL]
    split <;> split <;> omega
theorem cmpL_zero : ∀ xs ys : List Int, cmpL xs ys = 0 → xs = ys
  | [], [], _ => rfl
  | [], _ :: _, h => by simp [cmpL] at h
  | _ :: _, [], h => by simp [cmpL] at h
  | x :: xs, y :: ys, h => by
    simp only [cmpL] at h
    split at h
    · rename_i h1
      rw [ordI_zero.1 h1, cmpL_zero xs ys h]
    · omega
theorem cmpL_lt : ∀ xs ys zs : List Int, cmpL xs ys < 0 → cmpL ys zs < 0 → cmpL xs zs < 0
  | xs, [], zs, h1, _ => by cases xs <;> simp [cmpL] at h1
  | [], _ :: _, [], _, h => by simp [cmpL] at h
  | [], _ :: _, _ :: _, _, _ => by simp [cmpL]
  | _ :: _, _ :: _, [], _, h => by simp [cmpL] at h
  | x :: xs, y :: ys, z :: zs, h1, h2 => by
    have ih := cmpL_lt xs ys zs
    simp only [cmpL] at *
    have e1 := @ordI_zero x y
    have e2 := @ordI_zero y z
    have e3 := @ordI_zero x z
    have l1 := @ordI_lt x y
    have l2 := @ordI_lt y z
    have l3 := @ordI_lt x z
    split at h1 <;> split at h2 <;> split
    · exact ih h1 h2
    all_goals first | omega | (exfalso; omega)
def recL (r : Record) : List Int := [r.stamp.epoch, r.stamp.turn, r.op, r.key, r.val]
theorem recOrd_L (a b : Record) : recOrd a b = cmpL (recL a) (recL b) := by
  unfold recOrd
  rw [stampOrd_eq]
  simp only [recL, cmpL, bne_iff_ne, ne_eq, ite_not]
  split <;> rfl
theorem recL_inj {a b : Record} (h : recL a = recL b) : a = b := by
  obtain ⟨o, ⟨e, t⟩, k, v⟩ := a
  obtain ⟨o', ⟨e', t'⟩, k', v'⟩ := b
  simp only [recL, List.cons.injEq] at h
  obtain ⟨rfl, rfl, rfl, rfl, rfl, _⟩ := h
  rfl
theorem recOrd_irr (a : Record) : ¬ recOrd a a < 0 := by
  have h := cmpL_neg (recL a) (recL a)
  rw [recOrd_L]; omega
theorem recOrd_lt {a b c : Record} (h1 : recOrd a b < 0) (h2 : recOrd b c < 0) : recOrd a c < 0 := by
  rw [recOrd_L] at *; exact cmpL_lt _ _ _ h1 h2
theorem recOrd_tot {a b : Record} (h1 : ¬ recOrd a b < 0) (h2 : ¬ recOrd b a < 0) : a = b := by
  have h := cmpL_neg (recL a) (recL b)
  rw [recOrd_L] at *; exact recL_inj (cmpL_zero _ _ (by omega))
theorem recOrd_nlt {a b c : Record} (h1 : ¬ recOrd a b < 0) (h2 : ¬ recOrd b c < 0) : ¬ recOrd a c < 0 := fun h => by
  by_cases h3 : recOrd b a < 0
  · exact h2 (recOrd_lt h3 h)
  · rw [recOrd_tot h1 h3] at h; exact h2 h
def sortR (xs : List Record) : List Record := xs.mergeSort fun x y => !decide (recOrd y x < 0)
theorem sortR_perm (xs : List Record) : (sortR xs).Perm xs := List.mergeSort_perm ..
theorem sortR_len (xs : List Record) : (sortR xs).length = xs.length := (sortR_perm xs).length_eq
theorem sortR_sorted (xs : List Record) : (sortR xs).Pairwise fun a b => ¬ recOrd b a < 0 := by
  have h := List.pairwise_mergeSort (le := fun x y => !decide (recOrd y x < 0)) (fun a b c h1 h2 => by
    simp only [Bool.not_eq_true', decide_eq_false_iff_not] at *; exact recOrd_nlt h2 h1) (fun a b => by
    by_cases h : recOrd b a < 0
    · have : ¬ recOrd a b < 0 := fun h' => recOrd_irr _ (recOrd_lt h h')
      simp [this]
    · simp [h]) xs
  exact h.imp fun h => by simpa using h
section
variable {o : List Count} {r : Record}
theorem runStep_no (h : (!stampOk r.stamp) = true) : runStep o r = o := by
  have h' : stampOk r.stamp = false := by simpa using h
  rw [runStep, h', if_neg (by simp)]
theorem runStep_up (h : (!stampOk r.stamp) = false) (h3 : (decide (0 < ((o.length : Nat) : Int)) && decide ((List.getD o (o.length - 1) default).stamp = r.stamp)) = true) (hi : o.length - 1 < o.length) : runStep o r = o.set (o.length - 1) ⟨(o[o.length - 1]'hi).stamp, IntKind.i64.wrap ((o[o.length - 1]'hi).n + 1)⟩ := by
  have h' : stampOk r.stamp = true := by simpa using h
  rw [Bool.and_eq_true, decide_eq_true_eq, decide_eq_true_eq] at h3
  rw [runStep, if_pos h', if_pos ⟨by omega, h3.2⟩]
  simp only [getD_at hi]
theorem runStep_app (h : (!stampOk r.stamp) = false) (h3 : (decide (0 < ((o.length : Nat) : Int)) && decide ((List.getD o (o.length - 1) default).stamp = r.stamp)) = false) : runStep o r = o ++ [⟨r.stamp, 1⟩] := by
  have h' : stampOk r.stamp = true := by simpa using h
  rw [runStep, if_pos h', if_neg]
  rintro ⟨h1, h2⟩
  rw [decide_eq_true h2, decide_eq_true (by omega)] at h3
  cases h3
end
def recsOf (x : Worker) : List Record := x.queue ++ x.staged ++ x.inputs
theorem recsOf_len (x : Worker) : (recsOf x).length = x.queue.length + x.staged.length + x.inputs.length := by simp [recsOf]; omega
/-! ### the table of counts that a list of records comes to, by either way -/
def allS : List Stamp := (List.range 4).flatMap fun e => (List.range 7).map fun t => ⟨((e : Nat) : Int), ((t : Nat) : Int)⟩
theorem allS_sorted : allS.Pairwise fun a b => stampOrd a b < 0 := by decide +kernel
theorem allS_ok : ∀ s ∈ allS, stampOk s = true := by decide +kernel
theorem allS_mem {s : Stamp} (h : stampOk s = true) : s ∈ allS := by
  simp only [stampOk, Bool.and_eq_true, win_iff] at h
  obtain ⟨e, t⟩ := s
  simp only at h
  refine List.mem_flatMap.2 ⟨e.toNat, List.mem_range.2 (by omega), List.mem_map.2 ⟨t.toNat, List.mem_range.2 (by omega), ?_⟩⟩
  rw [Int.toNat_of_nonneg (by omega), Int.toNat_of_nonneg (by omega)]
theorem stampOrd_neg (a b : Stamp) : stampOrd b a = -stampOrd a b := cmpL_neg _ _
theorem stampOrd_self (a : Stamp) : stampOrd a a = 0 := by have := stampOrd_neg a a; omega
theorem allS_split {s : Stamp} (h : stampOk s = true) : ∃ A B, allS = A ++ s :: B ∧ (∀ a ∈ A, 0 < stampOrd s a) ∧ ∀ b ∈ B, stampOrd s b < 0 := by
  obtain ⟨A, B, hE⟩ := List.append_of_mem (allS_mem h)
  have hs := allS_sorted
  rw [hE, List.pairwise_append, List.pairwise_cons] at hs
  exact ⟨A, B, hE, fun a ha => by have := hs.2.2 a ha s (by simp); rw [stampOrd_neg]; omega, fun b hb => hs.2.1.1 b hb⟩
def tabOf (f : Stamp → Nat) (l : List Stamp) : List Count := (l.filter fun s => f s != 0).map fun s => ⟨s, (f s : Int)⟩
section
variable {f g : Stamp → Nat} {s : Stamp} {A B : List Stamp} {m : Int}
theorem tab_app (l l' : List Stamp) : tabOf f (l ++ l') = tabOf f l ++ tabOf f l' := by simp [tabOf]
theorem tab_congr {l : List Stamp} (h : ∀ s ∈ l, f s = g s) : tabOf f l = tabOf g l := by
  induction l with
  | nil => rfl
  | cons x l ih =>
    have h1 := h x (by simp)
    have h2 := ih fun s hs => h s (by simp [hs])
    rw [show x :: l = [x] ++ l from rfl, tab_app, tab_app, h2]
    simp only [tabOf, List.filter_cons, h1, List.filter_nil]
    split <;> simp [h1]
theorem tab_mem {l : List Stamp} {c : Count} (h : c ∈ tabOf f l) : c.stamp ∈ l ∧ f c.stamp ≠ 0 ∧ c.n = (f c.stamp : Int) := by
  simp only [tabOf, List.mem_map, List.mem_filter] at h
  obtain ⟨s, ⟨h1, h2⟩, rfl⟩ := h
  exact ⟨h1, by simpa using h2, rfl⟩
theorem tab_one : tabOf f [s] = if f s = 0 then [] else [⟨s, (f s : Int)⟩] := by
  simp only [tabOf, List.filter_cons, List.filter_nil, bne_iff_ne, ne_eq]
  split <;> simp_all
theorem tab_nil {l : List Stamp} (h : ∀ s ∈ l, f s = 0) : tabOf f l = [] := by
  simp only [tabOf, List.map_eq_nil_iff, List.filter_eq_nil_iff]
  intro s hs; simp [h s hs]
theorem adj_lt {s : Stamp} {m : Int} : ∀ (l : List Count) (o : List Count), (∀ x ∈ l, 0 < stampOrd s x.stamp) → l.foldl (adjStep s m) (o, false) = (o ++ l, false)
  | [], o, _ => by simp
  | x :: l, o, h => by
    have h1 := h x (by simp)
    have hne : x.stamp ≠ s := fun e => by rw [e, stampOrd_self] at h1; omega
    have h2 : decide (stampOrd s x.stamp ≤ 0) = false := decide_eq_false (by omega)
    rw [List.foldl_cons]
    have e1 : adjStep s m (o, false) x = (o ++ [x], false) := by simp [adjStep, h2, hne]
    rw [e1, adj_lt l _ fun y hy => h y (by simp [hy]), List.append_assoc]; rfl
theorem adj_done {s : Stamp} {m : Int} : ∀ (l : List Count) (o : List Count), (∀ x ∈ l, x.stamp ≠ s) → l.foldl (adjStep s m) (o, true) = (o ++ l, true)
  | [], o, _ => by simp
  | x :: l, o, h => by
    have hne := h x (by simp)
    rw [List.foldl_cons]
    have e1 : adjStep s m (o, true) x = (o ++ [x], true) := by simp [adjStep, hne]
    rw [e1, adj_done l _ fun y hy => h y (by simp [hy]), List.append_assoc]; rfl
theorem stamp_ne {a : Stamp} (h : stampOrd s a < 0) : a ≠ s := fun e => by rw [e, stampOrd_self] at h; omega
theorem adj_tab (hA : ∀ a ∈ A, 0 < stampOrd s a) (hB : ∀ b ∈ B, stampOrd s b < 0) (hm : m ≠ 0) : adjM (tabOf f A ++ tabOf f [s] ++ tabOf f B) s m = tabOf f A ++ [⟨s, m⟩] ++ tabOf f B := by
  have h1 : ∀ x ∈ tabOf f A, 0 < stampOrd s x.stamp := fun x hx => hA _ (tab_mem hx).1
  have h2 : ∀ x ∈ tabOf f B, x.stamp ≠ s := fun x hx => stamp_ne (hB _ (tab_mem hx).1)
  have h0 : (m == 0) = false := by simpa using hm
  have e : adjRun s m (tabOf f A ++ tabOf f [s] ++ tabOf f B) = ((tabOf f [s] ++ tabOf f B).foldl (adjStep s m) (tabOf f A, false)) := by
    unfold adjRun
    rw [h0, List.append_assoc, List.foldl_append, adj_lt _ _ h1, List.nil_append]
  unfold adjM
  rw [e, tab_one]
  by_cases hf : f s = 0
  · rw [if_pos hf, List.nil_append]
    cases hT : tabOf f B with
    | nil => simp
    | cons b t =>
      rw [hT] at h2
      have hb : stampOrd s b.stamp < 0 := hB _ (tab_mem (f := f) (l := B) (by rw [hT]; simp)).1
      rw [List.foldl_cons]
      have e1 : adjStep s m (tabOf f A, false) b = (tabOf f A ++ [⟨s, m⟩] ++ [b], true) := by
        have : decide (stampOrd s b.stamp ≤ 0) = true := decide_eq_true (by omega)
        simp [adjStep, this, h2 b (by simp)]
      rw [e1, adj_done _ _ fun x hx => h2 x (by simp [hx])]
      simp
  · rw [if_neg hf, List.foldl_append, List.foldl_cons, List.foldl_nil]
    have e1 : adjStep s m (tabOf f A, false) ⟨s, (f s : Int)⟩ = (tabOf f A ++ [⟨s, m⟩], true) := by
      simp [adjStep, stampOrd_self]
    rw [e1, adj_done _ _ h2]
    simp
theorem countAt_app : ∀ (l t : List Count), (∀ x ∈ l, x.stamp ≠ s) → countAt (l ++ t) s = countAt t s
  | [], t, _ => rfl
  | x :: l, t, h => by
    rw [List.cons_append, countAt, if_neg (h x (by simp)), countAt_app l t fun y hy => h y (by simp [hy])]
theorem countAt_none (l : List Count) (h : ∀ x ∈ l, x.stamp ≠ s) : countAt l s = 0 := by
  have := countAt_app l [] h
  rw [List.append_nil] at this; exact this
theorem countAt_tab (hA : ∀ a ∈ A, 0 < stampOrd s a) (hB : ∀ b ∈ B, stampOrd s b < 0) : countAt (tabOf f A ++ tabOf f [s] ++ tabOf f B) s = (f s : Int) := by
  have h2 : ∀ x ∈ tabOf f B, x.stamp ≠ s := fun x hx => stamp_ne (hB _ (tab_mem hx).1)
  rw [List.append_assoc, countAt_app _ _ (fun x hx e => by have := hA _ (tab_mem hx).1; rw [e, stampOrd_self] at this; omega), tab_one]
  by_cases hf : f s = 0
  · rw [if_pos hf, List.nil_append, countAt_none _ h2, hf]; rfl
  · rw [if_neg hf, List.cons_append, countAt, if_pos rfl]
theorem tab_ok (hf : ∀ s, f s ≤ 1000000) : countsOk (tabOf f allS) = true := by
  have hp : (tabOf f allS).Pairwise fun a b => stampOrd a.stamp b.stamp < 0 := by
    unfold tabOf
    rw [List.pairwise_map]
    exact allS_sorted.filter _
  refine List.all_eq_true.2 fun j hj => ?_
  have hj := List.mem_range.1 hj
  rw [cOkAt_at hj]
  obtain ⟨h1, h2, h3⟩ := tab_mem (List.getElem_mem hj)
  have h4 := hf (tabOf f allS)[j].stamp
  have e1 : stampOk (tabOf f allS)[j].stamp = true := allS_ok _ h1
  have e2 : win (tabOf f allS)[j].n (-1000000) 1000000 = true := win_iff.2 (by omega)
  have e3 : ((tabOf f allS)[j].n == 0) = false := by rw [beq_eq_false_iff_ne]; omega
  rw [e1, e2, e3]
  by_cases h0 : 0 < j
  · have hl : j - 1 < (tabOf f allS).length := by omega
    have := List.pairwise_iff_getElem.1 hp (j - 1) j hl hj (by omega)
    rw [getD_at hl, decide_eq_false (show ¬ 0 ≤ stampOrd (tabOf f allS)[j - 1].stamp (tabOf f allS)[j].stamp from by omega)]
    simp
  · rw [decide_eq_false (show ¬ (0 : Int) < ((j : Nat) : Int) from by omega)]
    simp
end
def cntS (rs : List Record) (s : Stamp) : Nat := rs.countP fun r => decide (r.stamp = s)
theorem cntS_snoc (rs : List Record) (r : Record) (s : Stamp) : cntS (rs ++ [r]) s = cntS rs s + if r.stamp = s then 1 else 0 := by
  simp only [cntS, List.countP_append, List.countP_cons, List.countP_nil]; simp
theorem cntS_le (rs : List Record) (s : Stamp) : cntS rs s ≤ rs.length := List.countP_le_length
/-- The table behind one record more. -/
theorem tab_snoc {rs : List Record} {r : Record} {A B : List Stamp} (hE : allS = A ++ r.stamp :: B) (hA : ∀ a ∈ A, 0 < stampOrd r.stamp a) (hB : ∀ b ∈ B, stampOrd r.stamp b < 0) :
    tabOf (cntS (rs ++ [r])) allS = tabOf (cntS rs) A ++ [⟨r.stamp, (cntS rs r.stamp : Int) + 1⟩] ++ tabOf (cntS rs) B := by
  have hne : ∀ s, r.stamp ≠ s → cntS (rs ++ [r]) s = cntS rs s := fun s h => by rw [cntS_snoc, if_neg h]; rfl
  have he : cntS (rs ++ [r]) r.stamp = cntS rs r.stamp + 1 := by rw [cntS_snoc, if_pos rfl]
  rw [hE, show A ++ r.stamp :: B = A ++ [r.stamp] ++ B from by simp, tab_app, tab_app, tab_one, he, if_neg (by omega),
    tab_congr (l := A) (fun s hs => hne s fun e => by have := hA s hs; rw [e, stampOrd_self] at this; omega), tab_congr (l := B) (fun s hs => hne s fun e => by have := hB s hs; rw [e, stampOrd_self] at this; omega)]
  simp
theorem tab_same {rs : List Record} {r : Record} (h : ¬ stampOk r.stamp = true) : tabOf (cntS (rs ++ [r])) allS = tabOf (cntS rs) allS :=
  tab_congr fun s hs => by rw [cntS_snoc, if_neg (fun e => h (by rw [e]; exact allS_ok s hs))]; rfl
theorem snoc_induct {α : Type} {P : List α → Prop} (h0 : P []) (h1 : ∀ l x, P l → P (l ++ [x])) (l : List α) : P l := by
  rw [← List.reverse_reverse l]
  induction l.reverse with
  | nil => exact h0
  | cons x t ih => rw [List.reverse_cons]; exact h1 _ _ ih
theorem cntTo_tab (rs : List Record) : rs.length ≤ 1000000 → cntTo rs = tabOf (cntS rs) allS := by
  refine snoc_induct (P := fun rs => rs.length ≤ 1000000 → cntTo rs = tabOf (cntS rs) allS) (fun _ => (tab_nil fun _ _ => rfl).symm) (fun rs r ih hl => ?_) rs
  rw [List.length_append, List.length_singleton] at hl
  have ih := ih (by omega)
  have e : cntTo (rs ++ [r]) = (adjustM (cntTo rs) r.stamp 1).1 := by unfold cntTo; rw [List.foldl_append]; rfl
  have hle := cntS_le rs r.stamp
  have hok : countsOk (tabOf (cntS rs) allS) = true := tab_ok fun s => Nat.le_trans (cntS_le rs s) (by omega)
  rw [e, ih]
  cases hs : stampOk r.stamp with
  | false => rw [adj_0 (by simp [adjBad, hs]), tab_same (by rw [hs]; simp)]
  | true =>
    obtain ⟨A, B, hE, hA, hB⟩ := allS_split hs
    have hT : tabOf (cntS rs) allS = tabOf (cntS rs) A ++ tabOf (cntS rs) [r.stamp] ++ tabOf (cntS rs) B := by
      rw [hE, show A ++ r.stamp :: B = A ++ [r.stamp] ++ B from by simp, tab_app, tab_app]
    have hc : IntKind.i64.wrap (countAt (tabOf (cntS rs) allS) r.stamp + 1) = (cntS rs r.stamp : Int) + 1 := by
      rw [hT, countAt_tab hA hB, wrap_in (by omega) (by omega)]
    rw [adj_2 (by rw [adjBad, hok, hs]; rfl) (by rw [hc, win_iff.2 (by omega)]; rfl), hc]
    show adjM _ _ _ = _
    rw [hT, adj_tab hA hB (by omega), tab_snoc hE hA hB]
theorem runTo_tab (rs : List Record) : rs.length ≤ 1000000 → (rs.Pairwise fun a b => ¬ recOrd b a < 0) → runTo rs = tabOf (cntS rs) allS := by
  refine snoc_induct (P := fun rs => rs.length ≤ 1000000 → (rs.Pairwise fun a b => ¬ recOrd b a < 0) → runTo rs = tabOf (cntS rs) allS) (fun _ _ => (tab_nil fun _ _ => rfl).symm) (fun rs r ih hl hp => ?_) rs
  rw [List.length_append, List.length_singleton] at hl
  rw [List.pairwise_append] at hp
  have ih := ih (by omega) hp.1
  have e : runTo (rs ++ [r]) = runStep (runTo rs) r := by unfold runTo; rw [List.foldl_append]; rfl
  have hle := cntS_le rs r.stamp
  rw [e, ih]
  cases hs : stampOk r.stamp with
  | false => rw [runStep_no (by rw [hs]; rfl), tab_same (by rw [hs]; simp)]
  | true =>
    obtain ⟨A, B, hE, hA, hB⟩ := allS_split hs
    have hB0 : tabOf (cntS rs) B = [] := tab_nil fun b hb => by
      refine List.countP_eq_zero.2 fun x hx => ?_
      have h1 := hp.2.2 x hx r (by simp)
      have h2 := hB b hb
      intro h3
      have h3 : x.stamp = b := by simpa using h3
      refine h1 ?_
      have h4 : stampOrd r.stamp x.stamp < 0 := by rw [h3]; exact h2
      rw [recOrd_1 (by simp; omega)]; exact h4
    have hT : tabOf (cntS rs) allS = tabOf (cntS rs) A ++ tabOf (cntS rs) [r.stamp] := by
      rw [hE, show A ++ r.stamp :: B = A ++ [r.stamp] ++ B from by simp, tab_app, tab_app, hB0, List.append_nil]
    rw [tab_snoc hE hA hB, hB0, List.append_nil, hT, tab_one]
    have hsa : (!stampOk r.stamp) = false := by rw [hs]; rfl
    by_cases hf : cntS rs r.stamp = 0
    · rw [if_pos hf, List.append_nil, runStep_app hsa, hf]
      · simp
      · cases hl : tabOf (cntS rs) A with
        | nil => rfl
        | cons c t =>
          rw [Bool.and_eq_false_iff]; right
          have hi : (c :: t).length - 1 < (c :: t).length := by simp
          rw [getD_at hi]
          have hm : (c :: t)[(c :: t).length - 1] ∈ tabOf (cntS rs) A := by rw [hl]; exact List.getElem_mem hi
          have := hA _ (tab_mem hm).1
          exact decide_eq_false fun e => by rw [e, stampOrd_self] at this; omega
    · rw [if_neg hf]
      have hi : (tabOf (cntS rs) A ++ [(⟨r.stamp, (cntS rs r.stamp : Int)⟩ : Count)]).length - 1 < (tabOf (cntS rs) A ++ [(⟨r.stamp, (cntS rs r.stamp : Int)⟩ : Count)]).length := by simp
      have hg : (tabOf (cntS rs) A ++ [(⟨r.stamp, (cntS rs r.stamp : Int)⟩ : Count)])[(tabOf (cntS rs) A ++ [(⟨r.stamp, (cntS rs r.stamp : Int)⟩ : Count)]).length - 1]'hi = ⟨r.stamp, (cntS rs r.stamp : Int)⟩ := by simp
      rw [runStep_up hsa (by rw [getD_at hi, hg]; simp) hi, hg]
      rw [wrap_in (by show (_ : Int) ≤ (cntS rs r.stamp : Int) + 1; omega) (by show (cntS rs r.stamp : Int) + 1 ≤ _; omega)]
      simp
/-- Either way comes to the same table. -/
theorem counts_same {rs : List Record} (h : rs.length ≤ 1000000) : runTo (sortR rs) = cntTo rs := by
  rw [runTo_tab _ (by rw [sortR_len]; exact h) (sortR_sorted rs), cntTo_tab rs h]
  exact tab_congr fun s _ => (sortR_perm rs).countP_eq _
def mkCount (k : Nat) : Count := ⟨⟨((k : Nat) : Int), ((k + 1 : Nat) : Int)⟩, ((k + 1 + 1 : Nat) : Int)⟩
theorem worker_new_ok (g : Graph) : workerOk g (workerNew []) = true := by
  rfl
theorem ws_fin {g : Graph} {o : Bool} {n : Int} {ys : List Record} : ((((((!o && (n == 0)) == ((!o) && (n == 0))) && (decide (((workerNew ys).inputs) = ys))) && (((((workerNew ys).sums).length : Nat) : Int) == 4)) && (((((workerNew ys).queue).length : Nat) : Int) == 0)) && (workerOk g (workerNew []))) = true := by
  rw [worker_new_ok]
  simp [workerNew]
end Go.Proofs.YtpkimhbibjpcpaaDoor
