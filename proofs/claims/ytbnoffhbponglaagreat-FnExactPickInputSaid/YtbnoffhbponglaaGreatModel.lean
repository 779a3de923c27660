/- The plain functions on lists and numbers that the contracts name, and what holds of them; no condition. -/
import Derived.Test.YtbnoffhbponglaaGreatLib2
namespace Go.Proofs.YtbnoffhbponglaaGreat
open Go Go.Proofs.YtbnoffhbponglaaGreat.X
def Xu {α : Type} (f : α → Nat) (xs : List α) : Nat := xs.length + (xs.map f).sum
structure Stamp where
  epoch : Int
  turn : Int
  deriving DecidableEq, Inhabited
instance : Enc Stamp := ⟨fun x => [.int .i64 x.epoch, .int .i64 x.turn], 2, fun _ => rfl, fun _ => rfl, by decide⟩
structure Record where
  op : Int
  stamp : Stamp
  key : Int
  val : Int
  deriving DecidableEq, Inhabited
instance : Enc Record := ⟨fun x => [.int .i64 x.op, .int .i64 x.stamp.epoch, .int .i64 x.stamp.turn, .int .i64 x.key, .int .i64 x.val], 5, fun _ => rfl, fun _ => rfl, by decide⟩
structure Cell where
  op : Int
  epoch : Int
  key : Int
  val : Int
  deriving DecidableEq, Inhabited
instance : Enc Cell := ⟨fun x => [.int .i64 x.op, .int .i64 x.epoch, .int .i64 x.key, .int .i64 x.val], 4, fun _ => rfl, fun _ => rfl, by decide⟩
structure Done where
  epoch : Int
  capped : Bool
  deriving DecidableEq, Inhabited
instance : Enc Done := ⟨fun x => [.int .i64 x.epoch, .bool x.capped], 2, fun _ => rfl, fun _ => rfl, by decide⟩
structure Token where
  going : Bool
  place : Int
  sum : Int
  black : Bool
  capped : Bool
  deriving DecidableEq, Inhabited
instance : Enc Token := ⟨fun x => [.bool x.going, .int .i64 x.place, .int .i64 x.sum, .bool x.black, .bool x.capped], 5, fun _ => rfl, fun _ => rfl, by decide⟩
structure News where
  dest : Int
  epoch : Int
  capped : Bool
  deriving DecidableEq, Inhabited
instance : Enc News := ⟨fun x => [.int .i64 x.dest, .int .i64 x.epoch, .bool x.capped], 3, fun _ => rfl, fun _ => rfl, by decide⟩
structure Count where
  stamp : Stamp
  n : Int
  deriving DecidableEq, Inhabited
instance : Enc Count := ⟨fun x => [.int .i64 x.stamp.epoch, .int .i64 x.stamp.turn, .int .i64 x.n], 3, fun _ => rfl, fun _ => rfl, by decide⟩
structure Node where
  kind : Int
  a : Int
  b : Int
  outs : List Int
  deriving DecidableEq, Inhabited
instance : Dat Node := ⟨4, fun w lo hi cs x => ∃ o1, cs = [.int .i64 x.kind, .int .i64 x.a, .int .i64 x.b, o1] ∧ RdD w lo hi o1 x.outs, by decide, fun h => by obtain ⟨o1, rfl, h1⟩ := h; exact rfl, fun h => by obtain ⟨o1, rfl, h1⟩ := h; exact Ql rfl (Ql rfl (Ql rfl (Ql (RdD.one h1) (rfl)))), fun h s => by obtain ⟨o1, rfl, h1⟩ := h; exact ⟨o1, rfl, RdD.same h1 s⟩, fun h a b => by obtain ⟨o1, rfl, h1⟩ := h; exact ⟨o1, rfl, RdD.widen h1 a b⟩, fun h => by obtain ⟨o1, rfl, h1⟩ := h; exact ⟨o1, rfl, RdD.any h1⟩⟩
theorem Node.op {w : World} {lo hi : Nat} {cs : List Value} {x : Node} (h : Dat.R w lo hi cs x) : ∃ o1, cs = [.int .i64 x.kind, .int .i64 x.a, .int .i64 x.b, o1] ∧ RdD w lo hi o1 x.outs := h
theorem Node.mkR {w : World} {lo hi : Nat} {o1 : Value} (x : Node) (h1 : RdD w lo hi o1 x.outs) : Dat.R w lo hi [.int .i64 x.kind, .int .i64 x.a, .int .i64 x.b, o1] x := ⟨o1, rfl, h1⟩
def Xr (x : Node) : Nat := x.outs.length
structure Graph where
  nodes : List Node
  workers : Int
  cap : Int
  deriving DecidableEq, Inhabited
instance : Dat Graph := ⟨3, fun w lo hi cs x => ∃ o1, cs = [o1, .int .i64 x.workers, .int .i64 x.cap] ∧ RdD w lo hi o1 x.nodes, by decide, fun h => by obtain ⟨o1, rfl, h1⟩ := h; exact rfl, fun h => by obtain ⟨o1, rfl, h1⟩ := h; exact Ql (RdD.one h1) (Ql rfl (Ql rfl (rfl))), fun h s => by obtain ⟨o1, rfl, h1⟩ := h; exact ⟨o1, rfl, RdD.same h1 s⟩, fun h a b => by obtain ⟨o1, rfl, h1⟩ := h; exact ⟨o1, rfl, RdD.widen h1 a b⟩, fun h => by obtain ⟨o1, rfl, h1⟩ := h; exact ⟨o1, rfl, RdD.any h1⟩⟩
theorem Graph.op {w : World} {lo hi : Nat} {cs : List Value} {x : Graph} (h : Dat.R w lo hi cs x) : ∃ o1, cs = [o1, .int .i64 x.workers, .int .i64 x.cap] ∧ RdD w lo hi o1 x.nodes := h
theorem Graph.mkR {w : World} {lo hi : Nat} {o1 : Value} (x : Graph) (h1 : RdD w lo hi o1 x.nodes) : Dat.R w lo hi [o1, .int .i64 x.workers, .int .i64 x.cap] x := ⟨o1, rfl, h1⟩
def Y6 (x : Graph) : Nat := Xu Xr x.nodes
structure Worker where
  queue : List Record
  staged : List Record
  inputs : List Record
  cells : List Cell
  sums : List Int
  black : List Bool
  caps : List Bool
  dones : List Done
  deriving DecidableEq, Inhabited
instance : Dat Worker := ⟨8, fun w lo hi cs x => ∃ o1 o2 o3 o4 o5 o6 o7 o8, cs = [o1, o2, o3, o4, o5, o6, o7, o8] ∧ RdD w lo hi o1 x.queue ∧ RdD w lo hi o2 x.staged ∧ RdD w lo hi o3 x.inputs ∧ RdD w lo hi o4 x.cells ∧ RdD w lo hi o5 x.sums ∧ RdD w lo hi o6 x.black ∧ RdD w lo hi o7 x.caps ∧ RdD w lo hi o8 x.dones, by decide, fun h => by obtain ⟨o1, o2, o3, o4, o5, o6, o7, o8, rfl, h1, h2, h3, h4, h5, h6, h7, h8⟩ := h; exact rfl, fun h => by obtain ⟨o1, o2, o3, o4, o5, o6, o7, o8, rfl, h1, h2, h3, h4, h5, h6, h7, h8⟩ := h; exact Ql (RdD.one h1) (Ql (RdD.one h2) (Ql (RdD.one h3) (Ql (RdD.one h4) (Ql (RdD.one h5) (Ql (RdD.one h6) (Ql (RdD.one h7) (Ql (RdD.one h8) (rfl)))))))), fun h s => by obtain ⟨o1, o2, o3, o4, o5, o6, o7, o8, rfl, h1, h2, h3, h4, h5, h6, h7, h8⟩ := h; exact ⟨o1, o2, o3, o4, o5, o6, o7, o8, rfl, RdD.same h1 s, RdD.same h2 s, RdD.same h3 s, RdD.same h4 s, RdD.same h5 s, RdD.same h6 s, RdD.same h7 s, RdD.same h8 s⟩, fun h a b => by obtain ⟨o1, o2, o3, o4, o5, o6, o7, o8, rfl, h1, h2, h3, h4, h5, h6, h7, h8⟩ := h; exact ⟨o1, o2, o3, o4, o5, o6, o7, o8, rfl, RdD.widen h1 a b, RdD.widen h2 a b, RdD.widen h3 a b, RdD.widen h4 a b, RdD.widen h5 a b, RdD.widen h6 a b, RdD.widen h7 a b, RdD.widen h8 a b⟩, fun h => by obtain ⟨o1, o2, o3, o4, o5, o6, o7, o8, rfl, h1, h2, h3, h4, h5, h6, h7, h8⟩ := h; exact ⟨o1, o2, o3, o4, o5, o6, o7, o8, rfl, RdD.any h1, RdD.any h2, RdD.any h3, RdD.any h4, RdD.any h5, RdD.any h6, RdD.any h7, RdD.any h8⟩⟩
theorem Worker.op {w : World} {lo hi : Nat} {cs : List Value} {x : Worker} (h : Dat.R w lo hi cs x) : ∃ o1 o2 o3 o4 o5 o6 o7 o8, cs = [o1, o2, o3, o4, o5, o6, o7, o8] ∧ RdD w lo hi o1 x.queue ∧ RdD w lo hi o2 x.staged ∧ RdD w lo hi o3 x.inputs ∧ RdD w lo hi o4 x.cells ∧ RdD w lo hi o5 x.sums ∧ RdD w lo hi o6 x.black ∧ RdD w lo hi o7 x.caps ∧ RdD w lo hi o8 x.dones := h
theorem Worker.mkR {w : World} {lo hi : Nat} {o1 o2 o3 o4 o5 o6 o7 o8 : Value} (x : Worker) (h1 : RdD w lo hi o1 x.queue) (h2 : RdD w lo hi o2 x.staged) (h3 : RdD w lo hi o3 x.inputs) (h4 : RdD w lo hi o4 x.cells) (h5 : RdD w lo hi o5 x.sums) (h6 : RdD w lo hi o6 x.black) (h7 : RdD w lo hi o7 x.caps) (h8 : RdD w lo hi o8 x.dones) : Dat.R w lo hi [o1, o2, o3, o4, o5, o6, o7, o8] x := ⟨o1, o2, o3, o4, o5, o6, o7, o8, rfl, h1, h2, h3, h4, h5, h6, h7, h8⟩
def Yd (x : Worker) : Nat := x.queue.length + x.staged.length + x.inputs.length + x.cells.length + x.sums.length + x.black.length + x.caps.length + x.dones.length
structure Link where
  cap : Int
  queue : List Record
  credits : Int
  back : Int
  sent : Int
  got : Int
  deriving DecidableEq, Inhabited
instance : Dat Link := ⟨6, fun w lo hi cs x => ∃ o1, cs = [.int .i64 x.cap, o1, .int .i64 x.credits, .int .i64 x.back, .int .i64 x.sent, .int .i64 x.got] ∧ RdD w lo hi o1 x.queue, by decide, fun h => by obtain ⟨o1, rfl, h1⟩ := h; exact rfl, fun h => by obtain ⟨o1, rfl, h1⟩ := h; exact Ql rfl (Ql (RdD.one h1) (Ql rfl (Ql rfl (Ql rfl (Ql rfl (rfl)))))), fun h s => by obtain ⟨o1, rfl, h1⟩ := h; exact ⟨o1, rfl, RdD.same h1 s⟩, fun h a b => by obtain ⟨o1, rfl, h1⟩ := h; exact ⟨o1, rfl, RdD.widen h1 a b⟩, fun h => by obtain ⟨o1, rfl, h1⟩ := h; exact ⟨o1, rfl, RdD.any h1⟩⟩
theorem Link.op {w : World} {lo hi : Nat} {cs : List Value} {x : Link} (h : Dat.R w lo hi cs x) : ∃ o1, cs = [.int .i64 x.cap, o1, .int .i64 x.credits, .int .i64 x.back, .int .i64 x.sent, .int .i64 x.got] ∧ RdD w lo hi o1 x.queue := h
theorem Link.mkR {w : World} {lo hi : Nat} {o1 : Value} (x : Link) (h1 : RdD w lo hi o1 x.queue) : Dat.R w lo hi [.int .i64 x.cap, o1, .int .i64 x.credits, .int .i64 x.back, .int .i64 x.sent, .int .i64 x.got] x := ⟨o1, rfl, h1⟩
def Y9 (x : Link) : Nat := x.queue.length
structure Cluster where
  graph : Graph
  workers : List Worker
  links : List Link
  tokens : List Token
  news : List News
  deriving DecidableEq, Inhabited
instance : Dat Cluster := ⟨7, fun w lo hi cs x => ∃ o1 o2 o3 o4 o5, cs = [o1, .int .i64 x.graph.workers, .int .i64 x.graph.cap, o2, o3, o4, o5] ∧ RdD w lo hi o1 x.graph.nodes ∧ RdD w lo hi o2 x.workers ∧ RdD w lo hi o3 x.links ∧ RdD w lo hi o4 x.tokens ∧ RdD w lo hi o5 x.news, by decide, fun h => by obtain ⟨o1, o2, o3, o4, o5, rfl, h1, h2, h3, h4, h5⟩ := h; exact rfl, fun h => by obtain ⟨o1, o2, o3, o4, o5, rfl, h1, h2, h3, h4, h5⟩ := h; exact Ql (RdD.one h1) (Ql rfl (Ql rfl (Ql (RdD.one h2) (Ql (RdD.one h3) (Ql (RdD.one h4) (Ql (RdD.one h5) (rfl))))))), fun h s => by obtain ⟨o1, o2, o3, o4, o5, rfl, h1, h2, h3, h4, h5⟩ := h; exact ⟨o1, o2, o3, o4, o5, rfl, RdD.same h1 s, RdD.same h2 s, RdD.same h3 s, RdD.same h4 s, RdD.same h5 s⟩, fun h a b => by obtain ⟨o1, o2, o3, o4, o5, rfl, h1, h2, h3, h4, h5⟩ := h; exact ⟨o1, o2, o3, o4, o5, rfl, RdD.widen h1 a b, RdD.widen h2 a b, RdD.widen h3 a b, RdD.widen h4 a b, RdD.widen h5 a b⟩, fun h => by obtain ⟨o1, o2, o3, o4, o5, rfl, h1, h2, h3, h4, h5⟩ := h; exact ⟨o1, o2, o3, o4, o5, rfl, RdD.any h1, RdD.any h2, RdD.any h3, RdD.any h4, RdD.any h5⟩⟩
theorem Cluster.op {w : World} {lo hi : Nat} {cs : List Value} {x : Cluster} (h : Dat.R w lo hi cs x) : ∃ o1 o2 o3 o4 o5, cs = [o1, .int .i64 x.graph.workers, .int .i64 x.graph.cap, o2, o3, o4, o5] ∧ RdD w lo hi o1 x.graph.nodes ∧ RdD w lo hi o2 x.workers ∧ RdD w lo hi o3 x.links ∧ RdD w lo hi o4 x.tokens ∧ RdD w lo hi o5 x.news := h
theorem Cluster.mkR {w : World} {lo hi : Nat} {o1 o2 o3 o4 o5 : Value} (x : Cluster) (h1 : RdD w lo hi o1 x.graph.nodes) (h2 : RdD w lo hi o2 x.workers) (h3 : RdD w lo hi o3 x.links) (h4 : RdD w lo hi o4 x.tokens) (h5 : RdD w lo hi o5 x.news) : Dat.R w lo hi [o1, .int .i64 x.graph.workers, .int .i64 x.graph.cap, o2, o3, o4, o5] x := ⟨o1, o2, o3, o4, o5, rfl, h1, h2, h3, h4, h5⟩
def Yf (x : Cluster) : Nat := Y6 x.graph + Xu Yd x.workers + Xu Y9 x.links + x.tokens.length + x.news.length
instance : Own1 Node := { (inferInstance : Dat Node) with
  O := fun w lo hi cs x => ∃ o1, cs = [.int .i64 x.kind, .int .i64 x.a, .int .i64 x.b, o1] ∧ SepL [o1] ∧ Own w lo hi 1 o1 (List.flatMap (Enc.enc (α := Int)) x.outs)
  rd := fun ⟨o1, e, s, h1⟩ => ⟨o1, e, h1.rdD⟩
  kp := fun ⟨o1, e, s, h1⟩ k => ⟨o1, e, s, h1.kp (k.sub (fpr_mem (by rw [e]; simp)))⟩
  wide := fun ⟨o1, e, s, h1⟩ a b => ⟨o1, e, s, h1.widen a b⟩
  inn := by rintro w lo hi cs x ⟨o1, rfl, s, h1⟩; exact FpA.all ⟨(fun _ h => absurd h List.not_mem_nil), (fun _ h => absurd h List.not_mem_nil), (fun _ h => absurd h List.not_mem_nil), h1.innb, trivial⟩
  nd := by rintro w lo hi cs x ⟨o1, rfl, s, h1⟩; exact (show (fpr [o1]).Nodup from SepL.nd s) }
theorem Node.opO {w : World} {lo hi : Nat} {cs : List Value} {x : Node} (h : Own1.O w lo hi cs x) : ∃ o1, cs = [.int .i64 x.kind, .int .i64 x.a, .int .i64 x.b, o1] ∧ SepL [o1] ∧ Own w lo hi 1 o1 (List.flatMap (Enc.enc (α := Int)) x.outs) := h
theorem Node.mkO {w : World} {lo hi : Nat} {o1 : Value} (x : Node) (s : SepL [o1]) (h1 : Own w lo hi 1 o1 (List.flatMap (Enc.enc (α := Int)) x.outs)) : Own1.O w lo hi [.int .i64 x.kind, .int .i64 x.a, .int .i64 x.b, o1] x := ⟨o1, rfl, s, h1⟩
instance : Own1 Worker := { (inferInstance : Dat Worker) with
  O := fun w lo hi cs x => ∃ o1 o2 o3 o4 o5 o6 o7 o8, cs = [o1, o2, o3, o4, o5, o6, o7, o8] ∧ SepL [o1, o2, o3, o4, o5, o6, o7, o8] ∧ Own w lo hi 5 o1 (List.flatMap (Enc.enc (α := Record)) x.queue) ∧ Own w lo hi 5 o2 (List.flatMap (Enc.enc (α := Record)) x.staged) ∧ Own w lo hi 5 o3 (List.flatMap (Enc.enc (α := Record)) x.inputs) ∧ Own w lo hi 4 o4 (List.flatMap (Enc.enc (α := Cell)) x.cells) ∧ Own w lo hi 1 o5 (List.flatMap (Enc.enc (α := Int)) x.sums) ∧ Own w lo hi 1 o6 (List.flatMap (Enc.enc (α := Bool)) x.black) ∧ Own w lo hi 1 o7 (List.flatMap (Enc.enc (α := Bool)) x.caps) ∧ Own w lo hi 2 o8 (List.flatMap (Enc.enc (α := Done)) x.dones)
  rd := fun ⟨o1, o2, o3, o4, o5, o6, o7, o8, e, s, h1, h2, h3, h4, h5, h6, h7, h8⟩ => ⟨o1, o2, o3, o4, o5, o6, o7, o8, e, h1.rdD, h2.rdD, h3.rdD, h4.rdD, h5.rdD, h6.rdD, h7.rdD, h8.rdD⟩
  kp := fun ⟨o1, o2, o3, o4, o5, o6, o7, o8, e, s, h1, h2, h3, h4, h5, h6, h7, h8⟩ k => ⟨o1, o2, o3, o4, o5, o6, o7, o8, e, s, h1.kp (k.sub (fpr_mem (by rw [e]; simp))), h2.kp (k.sub (fpr_mem (by rw [e]; simp))), h3.kp (k.sub (fpr_mem (by rw [e]; simp))), h4.kp (k.sub (fpr_mem (by rw [e]; simp))), h5.kp (k.sub (fpr_mem (by rw [e]; simp))), h6.kp (k.sub (fpr_mem (by rw [e]; simp))), h7.kp (k.sub (fpr_mem (by rw [e]; simp))), h8.kp (k.sub (fpr_mem (by rw [e]; simp)))⟩
  wide := fun ⟨o1, o2, o3, o4, o5, o6, o7, o8, e, s, h1, h2, h3, h4, h5, h6, h7, h8⟩ a b => ⟨o1, o2, o3, o4, o5, o6, o7, o8, e, s, h1.widen a b, h2.widen a b, h3.widen a b, h4.widen a b, h5.widen a b, h6.widen a b, h7.widen a b, h8.widen a b⟩
  inn := by rintro w lo hi cs x ⟨o1, o2, o3, o4, o5, o6, o7, o8, rfl, s, h1, h2, h3, h4, h5, h6, h7, h8⟩; exact FpA.all ⟨h1.innb, h2.innb, h3.innb, h4.innb, h5.innb, h6.innb, h7.innb, h8.innb, trivial⟩
  nd := by rintro w lo hi cs x ⟨o1, o2, o3, o4, o5, o6, o7, o8, rfl, s, h1, h2, h3, h4, h5, h6, h7, h8⟩; exact (show (fpr [o1, o2, o3, o4, o5, o6, o7, o8]).Nodup from SepL.nd s) }
theorem Worker.opO {w : World} {lo hi : Nat} {cs : List Value} {x : Worker} (h : Own1.O w lo hi cs x) : ∃ o1 o2 o3 o4 o5 o6 o7 o8, cs = [o1, o2, o3, o4, o5, o6, o7, o8] ∧ SepL [o1, o2, o3, o4, o5, o6, o7, o8] ∧ Own w lo hi 5 o1 (List.flatMap (Enc.enc (α := Record)) x.queue) ∧ Own w lo hi 5 o2 (List.flatMap (Enc.enc (α := Record)) x.staged) ∧ Own w lo hi 5 o3 (List.flatMap (Enc.enc (α := Record)) x.inputs) ∧ Own w lo hi 4 o4 (List.flatMap (Enc.enc (α := Cell)) x.cells) ∧ Own w lo hi 1 o5 (List.flatMap (Enc.enc (α := Int)) x.sums) ∧ Own w lo hi 1 o6 (List.flatMap (Enc.enc (α := Bool)) x.black) ∧ Own w lo hi 1 o7 (List.flatMap (Enc.enc (α := Bool)) x.caps) ∧ Own w lo hi 2 o8 (List.flatMap (Enc.enc (α := Done)) x.dones) := h
theorem Worker.mkO {w : World} {lo hi : Nat} {o1 o2 o3 o4 o5 o6 o7 o8 : Value} (x : Worker) (s : SepL [o1, o2, o3, o4, o5, o6, o7, o8]) (h1 : Own w lo hi 5 o1 (List.flatMap (Enc.enc (α := Record)) x.queue)) (h2 : Own w lo hi 5 o2 (List.flatMap (Enc.enc (α := Record)) x.staged)) (h3 : Own w lo hi 5 o3 (List.flatMap (Enc.enc (α := Record)) x.inputs)) (h4 : Own w lo hi 4 o4 (List.flatMap (Enc.enc (α := Cell)) x.cells)) (h5 : Own w lo hi 1 o5 (List.flatMap (Enc.enc (α := Int)) x.sums)) (h6 : Own w lo hi 1 o6 (List.flatMap (Enc.enc (α := Bool)) x.black)) (h7 : Own w lo hi 1 o7 (List.flatMap (Enc.enc (α := Bool)) x.caps)) (h8 : Own w lo hi 2 o8 (List.flatMap (Enc.enc (α := Done)) x.dones)) : Own1.O w lo hi [o1, o2, o3, o4, o5, o6, o7, o8] x := ⟨o1, o2, o3, o4, o5, o6, o7, o8, rfl, s, h1, h2, h3, h4, h5, h6, h7, h8⟩
instance : Own1 Link := { (inferInstance : Dat Link) with
  O := fun w lo hi cs x => ∃ o1, cs = [.int .i64 x.cap, o1, .int .i64 x.credits, .int .i64 x.back, .int .i64 x.sent, .int .i64 x.got] ∧ SepL [o1] ∧ Own w lo hi 5 o1 (List.flatMap (Enc.enc (α := Record)) x.queue)
  rd := fun ⟨o1, e, s, h1⟩ => ⟨o1, e, h1.rdD⟩
  kp := fun ⟨o1, e, s, h1⟩ k => ⟨o1, e, s, h1.kp (k.sub (fpr_mem (by rw [e]; simp)))⟩
  wide := fun ⟨o1, e, s, h1⟩ a b => ⟨o1, e, s, h1.widen a b⟩
  inn := by rintro w lo hi cs x ⟨o1, rfl, s, h1⟩; exact FpA.all ⟨(fun _ h => absurd h List.not_mem_nil), h1.innb, (fun _ h => absurd h List.not_mem_nil), (fun _ h => absurd h List.not_mem_nil), (fun _ h => absurd h List.not_mem_nil), (fun _ h => absurd h List.not_mem_nil), trivial⟩
  nd := by rintro w lo hi cs x ⟨o1, rfl, s, h1⟩; exact (show (fpr [o1]).Nodup from SepL.nd s) }
theorem Link.opO {w : World} {lo hi : Nat} {cs : List Value} {x : Link} (h : Own1.O w lo hi cs x) : ∃ o1, cs = [.int .i64 x.cap, o1, .int .i64 x.credits, .int .i64 x.back, .int .i64 x.sent, .int .i64 x.got] ∧ SepL [o1] ∧ Own w lo hi 5 o1 (List.flatMap (Enc.enc (α := Record)) x.queue) := h
theorem Link.mkO {w : World} {lo hi : Nat} {o1 : Value} (x : Link) (s : SepL [o1]) (h1 : Own w lo hi 5 o1 (List.flatMap (Enc.enc (α := Record)) x.queue)) : Own1.O w lo hi [.int .i64 x.cap, o1, .int .i64 x.credits, .int .i64 x.back, .int .i64 x.sent, .int .i64 x.got] x := ⟨o1, rfl, s, h1⟩
def okStamp (x : Stamp) : Prop := (rg x.epoch) ∧ (rg x.turn)
def okRecord (x : Record) : Prop := (rg x.op) ∧ (okStamp x.stamp) ∧ (rg x.key) ∧ (rg x.val)
def okCell (x : Cell) : Prop := (rg x.op) ∧ (rg x.epoch) ∧ (rg x.key) ∧ (rg x.val)
def okDone (x : Done) : Prop := (rg x.epoch) ∧ (True)
def okToken (x : Token) : Prop := (True) ∧ (rg x.place) ∧ (rg x.sum) ∧ (True) ∧ (True)
def okNews (x : News) : Prop := (rg x.dest) ∧ (rg x.epoch) ∧ (True)
def okCount (x : Count) : Prop := (okStamp x.stamp) ∧ (rg x.n)
def okNode (x : Node) : Prop := (rg x.kind) ∧ (rg x.a) ∧ (rg x.b) ∧ (∀ y ∈ x.outs, rg y)
def okGraph (x : Graph) : Prop := (∀ y ∈ x.nodes, okNode y) ∧ (rg x.workers) ∧ (rg x.cap)
def okWorker (x : Worker) : Prop := (∀ y ∈ x.queue, okRecord y) ∧ (∀ y ∈ x.staged, okRecord y) ∧ (∀ y ∈ x.inputs, okRecord y) ∧ (∀ y ∈ x.cells, okCell y) ∧ (∀ y ∈ x.sums, rg y) ∧ (∀ y ∈ x.black, True) ∧ (∀ y ∈ x.caps, True) ∧ (∀ y ∈ x.dones, okDone y)
def okLink (x : Link) : Prop := (rg x.cap) ∧ (∀ y ∈ x.queue, okRecord y) ∧ (rg x.credits) ∧ (rg x.back) ∧ (rg x.sent) ∧ (rg x.got)
def okCluster (x : Cluster) : Prop := (okGraph x.graph) ∧ (∀ y ∈ x.workers, okWorker y) ∧ (∀ y ∈ x.links, okLink y) ∧ (∀ y ∈ x.tokens, okToken y) ∧ (∀ y ∈ x.news, okNews y)
section
variable {w w' : World} {lo hi lo' hi' : Nat} {o1 o2 o3 o4 o5 : Value} {x : Cluster} {y : Option Nat}
def OwC (w : World) (lo hi : Nat) (o1 o2 o3 o4 o5 : Value) (x : Cluster) : Prop :=
  ∃ f1 f2 f3, OwF w lo hi o1 x.graph.nodes f1 ∧ OwF w lo hi o2 x.workers f2 ∧ OwF w lo hi o3 x.links f3 ∧ Own w lo hi 5 o4 (List.flatMap (Enc.enc (α := Token)) x.tokens) ∧ Own w lo hi 3 o5 (List.flatMap (Enc.enc (α := News)) x.news) ∧ DjL [f1, f2, f3, blks o4, blks o5]
theorem OwC.same (h : OwC w lo hi o1 o2 o3 o4 o5 x) (s : Same w w' lo hi) : OwC w' lo hi o1 o2 o3 o4 o5 x := by
  obtain ⟨f1, f2, f3, h1, h2, h3, h4, h5, sp⟩ := h
  exact ⟨f1, f2, f3, h1.same s, h2.same s, h3.same s, h4.kp ⟨s.size, fun b hb hl => s.block b (h4.in2 b hb).1 (h4.in2 b hb).2 hl⟩, h5.kp ⟨s.size, fun b hb hl => s.block b (h5.in2 b hb).1 (h5.in2 b hb).2 hl⟩, sp⟩
theorem OwC.ext (h : OwC w lo hi o1 o2 o3 o4 o5 x) (e : Ext w w') : OwC w' lo hi o1 o2 o3 o4 o5 x := h.same (e.keeps (by simp))
theorem OwC.mod (h : OwC w lo hi o1 o2 o3 o4 o5 x) (m : Mod w w' y) (hx : ∀ g, y = some g → g < lo ∨ hi ≤ g) : OwC w' lo hi o1 o2 o3 o4 o5 x := h.same (m.keeps hx)
theorem OwC.modR (h : OwC w lo hi o1 o2 o3 o4 o5 x) (m : ModR w w' lo' hi') (hx : hi ≤ lo' ∨ hi' ≤ lo) : OwC w' lo hi o1 o2 o3 o4 o5 x := h.same (m.keeps hx)
theorem OwC.widen (h : OwC w lo hi o1 o2 o3 o4 o5 x) (a : lo' ≤ lo) (b : hi ≤ hi') : OwC w lo' hi' o1 o2 o3 o4 o5 x := by
  obtain ⟨f1, f2, f3, h1, h2, h3, h4, h5, sp⟩ := h
  exact ⟨f1, f2, f3, h1.widen a b, h2.widen a b, h3.widen a b, h4.widen a b, h5.widen a b, sp⟩
theorem OwC.rd1 (h : OwC w lo hi o1 o2 o3 o4 o5 x) : RdD w lo hi o1 x.graph.nodes := by obtain ⟨f1, f2, f3, h1, h2, h3, h4, h5, sp⟩ := h; exact h1.rd
theorem OwC.rd2 (h : OwC w lo hi o1 o2 o3 o4 o5 x) : RdD w lo hi o2 x.workers := by obtain ⟨f1, f2, f3, h1, h2, h3, h4, h5, sp⟩ := h; exact h2.rd
theorem OwC.rd3 (h : OwC w lo hi o1 o2 o3 o4 o5 x) : RdD w lo hi o3 x.links := by obtain ⟨f1, f2, f3, h1, h2, h3, h4, h5, sp⟩ := h; exact h3.rd
theorem OwC.rd4 (h : OwC w lo hi o1 o2 o3 o4 o5 x) : RdD w lo hi o4 x.tokens := by obtain ⟨f1, f2, f3, h1, h2, h3, h4, h5, sp⟩ := h; exact h4.rdD
theorem OwC.rd5 (h : OwC w lo hi o1 o2 o3 o4 o5 x) : RdD w lo hi o5 x.news := by obtain ⟨f1, f2, f3, h1, h2, h3, h4, h5, sp⟩ := h; exact h5.rdD
theorem OwC.setW {P : Program} {t i lo2 hi2 : Nat} {z cs : List Value} {y : Worker} (hT : StT P t (Dat.sz Worker) z) (h : OwC w lo hi o1 o2 o3 o4 o5 x) (hi' : i < x.workers.length) (ho : Own1.O w lo2 hi2 cs y) (hd : hi ≤ lo2) (hl : lo ≤ lo2) (hh : hi ≤ hi2) :
    ∃ w', (storeVar t ⟨Xm o2, Xl o2 + i * Dat.sz Worker, none⟩ (.agg cs.toArray)).run P w = .ok () w' ∧ Mod w w' o2.ownBlock ∧ OwC w' lo hi2 o1 o2 o3 o4 o5 { x with workers := x.workers.set i y } := by
  obtain ⟨f1, f2, f3, h1, h2, h3, h4, h5, ⟨d1, d2, d3, d4, _⟩, ⟨d5, d6, d7, _⟩, sp⟩ := h
  have far : ∀ {f : List Nat}, (∀ b ∈ f, lo ≤ b ∧ b < hi) → Dj f (fpr cs) := fun hf b hb hc => by have := hf b hb; have := Own1.inn ho b hc; omega
  obtain ⟨w', f', hr, hm, h2', kq, hin⟩ := h2.set hT hi' ho (far h2.in2) hl hh
  exact ⟨w', hr, hm, f1, f', f3, (h1.kp (kq.kp d1)).widen (Nat.le_refl _) hh, h2', (h3.kp (kq.kp d5.symm)).widen (Nat.le_refl _) hh, (h4.kp (kq.kp d6.symm)).widen (Nat.le_refl _) hh, (h5.kp (kq.kp d7.symm)).widen (Nat.le_refl _) hh,
    ⟨d1.grow hin (far h1.in2), d2, d3, d4, trivial⟩, ⟨(d5.symm.grow hin (far h3.in2)).symm, (d6.symm.grow hin (far h4.in2)).symm, (d7.symm.grow hin (far h5.in2)).symm, trivial⟩, sp⟩
theorem OwC.of2 (x : Cluster) {a b a2 b2 a3 b3 : Nat} {f1 : List Nat} (h1 : OwF w a b o1 x.graph.nodes f1) (h2 : OwS w a2 b2 o2 x.workers) (h3 : OwS w a3 b3 o3 x.links) (h4 : Own w a b 5 o4 (List.flatMap (Enc.enc (α := Token)) x.tokens)) (h5 : Own w a b 3 o5 (List.flatMap (Enc.enc (α := News)) x.news)) (dj : DjL [f1, blks o4, blks o5])
    (hb : lo ≤ a ∧ b ≤ hi ∧ lo ≤ a2 ∧ b2 ≤ hi ∧ lo ≤ a3 ∧ b3 ≤ hi) (hd : (b ≤ a2 ∨ b2 ≤ a) ∧ (b ≤ a3 ∨ b3 ≤ a) ∧ (b2 ≤ a3 ∨ b3 ≤ a2)) : OwC w lo hi o1 o2 o3 o4 o5 x := by
  obtain ⟨f2, h2⟩ := h2.owf
  obtain ⟨f3, h3⟩ := h3.owf
  obtain ⟨p1, q1, p2, q2, p3, q3⟩ := hb
  obtain ⟨d1, d2, d5⟩ := hd
  obtain ⟨⟨e1, e2, _⟩, ⟨e3, _⟩, _⟩ := dj
  exact ⟨f1, f2, f3, h1.widen p1 q1, h2.widen p2 q2, h3.widen p3 q3, h4.widen p1 q1, h5.widen p1 q1,
    ⟨Dj.apart h1.in2 h2.in2 d1, Dj.apart h1.in2 h3.in2 d2, e1, e2, trivial⟩, ⟨Dj.apart h2.in2 h3.in2 d5, (Dj.apart h4.in2 h2.in2 d1).symm, (Dj.apart h5.in2 h2.in2 d1).symm, trivial⟩,
    ⟨(Dj.apart h4.in2 h3.in2 d2).symm, (Dj.apart h5.in2 h3.in2 d2).symm, trivial⟩, ⟨e3, trivial⟩, trivial, trivial⟩
def OwR (w : World) (lo hi b : Nat) (o1 o2 o3 o4 o5 : Value) (x : Cluster) (ok : Bool) : Prop :=
  ∃ f1 f2 f3, Blk w b [o1, .int .i64 x.graph.workers, .int .i64 x.graph.cap, o2, o3, o4, o5, .bool ok] ∧ lo ≤ b ∧ OwF w lo hi o1 x.graph.nodes f1 ∧ OwF w lo hi o2 x.workers f2 ∧ OwF w lo hi o3 x.links f3 ∧ Own w lo hi 5 o4 (List.flatMap (Enc.enc (α := Token)) x.tokens) ∧ Own w lo hi 3 o5 (List.flatMap (Enc.enc (α := News)) x.news) ∧ DjL [f1, f2, f3, blks o4, blks o5, [b]]
theorem OwR.of {b : Nat} {ok : Bool} (h : OwC w lo hi o1 o2 o3 o4 o5 x) (hB : Blk w b [o1, .int .i64 x.graph.workers, .int .i64 x.graph.cap, o2, o3, o4, o5, .bool ok]) (hd : b < lo ∨ hi ≤ b) (h1 : lo' ≤ lo) (h2 : lo' ≤ b) (h3 : hi ≤ hi') : OwR w lo' hi' b o1 o2 o3 o4 o5 x ok := by
  obtain ⟨f1, f2, f3, a1, a2, a3, a4, a5, ⟨d1, d2, d3, d4, _⟩, ⟨d5, d6, d7, _⟩, ⟨d8, d9, _⟩, ⟨d10, _⟩, _⟩ := h
  have far : ∀ {f : List Nat}, (∀ y ∈ f, lo ≤ y ∧ y < hi) → Dj f [b] := fun hf y hy hc => by have := hf y hy; simp at hc; omega
  exact ⟨f1, f2, f3, hB, h2, a1.widen h1 h3, a2.widen h1 h3, a3.widen h1 h3, a4.widen h1 h3, a5.widen h1 h3,
    ⟨d1, d2, d3, d4, far a1.in2, trivial⟩, ⟨d5, d6, d7, far a2.in2, trivial⟩, ⟨d8, d9, far a3.in2, trivial⟩, ⟨d10, far a4.in2, trivial⟩, ⟨far a5.in2, trivial⟩, trivial, trivial⟩
theorem OwC.blk2 (h : OwC w lo hi o1 o2 o3 o4 o5 x) : ∀ g, o2.ownBlock = some g → lo ≤ g ∧ g < hi := by obtain ⟨f1, f2, f3, h1, h2, h3, h4, h5, sp⟩ := h; exact fun g hg => h2.ows.inn g hg
theorem OwC.of (x : Cluster) {a1 b1 a2 b2 a3 b3 a4 b4 a5 b5 : Nat} (h1 : OwS w a1 b1 o1 x.graph.nodes) (h2 : OwS w a2 b2 o2 x.workers) (h3 : OwS w a3 b3 o3 x.links) (h4 : Own w a4 b4 5 o4 (List.flatMap (Enc.enc (α := Token)) x.tokens)) (h5 : Own w a5 b5 3 o5 (List.flatMap (Enc.enc (α := News)) x.news))
    (hb : lo ≤ a1 ∧ b1 ≤ hi ∧ lo ≤ a2 ∧ b2 ≤ hi ∧ lo ≤ a3 ∧ b3 ≤ hi ∧ lo ≤ a4 ∧ b4 ≤ hi ∧ lo ≤ a5 ∧ b5 ≤ hi)
    (hd : (b1 ≤ a2 ∨ b2 ≤ a1) ∧ (b1 ≤ a3 ∨ b3 ≤ a1) ∧ (b1 ≤ a4 ∨ b4 ≤ a1) ∧ (b1 ≤ a5 ∨ b5 ≤ a1) ∧ (b2 ≤ a3 ∨ b3 ≤ a2) ∧ (b2 ≤ a4 ∨ b4 ≤ a2) ∧ (b2 ≤ a5 ∨ b5 ≤ a2) ∧ (b3 ≤ a4 ∨ b4 ≤ a3) ∧ (b3 ≤ a5 ∨ b5 ≤ a3) ∧ (b4 ≤ a5 ∨ b5 ≤ a4)) : OwC w lo hi o1 o2 o3 o4 o5 x := by
  obtain ⟨f1, h1⟩ := h1.owf
  obtain ⟨f2, h2⟩ := h2.owf
  obtain ⟨f3, h3⟩ := h3.owf
  obtain ⟨p1, q1, p2, q2, p3, q3, p4, q4, p5, q5⟩ := hb
  obtain ⟨d1, d2, d3, d4, d5, d6, d7, d8, d9, d10⟩ := hd
  exact ⟨f1, f2, f3, h1.widen p1 q1, h2.widen p2 q2, h3.widen p3 q3, h4.widen p4 q4, h5.widen p5 q5,
    ⟨Dj.apart h1.in2 h2.in2 d1, Dj.apart h1.in2 h3.in2 d2, Dj.apart h1.in2 h4.in2 d3, Dj.apart h1.in2 h5.in2 d4, trivial⟩, ⟨Dj.apart h2.in2 h3.in2 d5, Dj.apart h2.in2 h4.in2 d6, Dj.apart h2.in2 h5.in2 d7, trivial⟩,
    ⟨Dj.apart h3.in2 h4.in2 d8, Dj.apart h3.in2 h5.in2 d9, trivial⟩, ⟨Dj.apart h4.in2 h5.in2 d10, trivial⟩, trivial, trivial⟩
end
def mkCell (k : Nat) : Cell := ⟨((k : Nat) : Int), ((k + 1 : Nat) : Int), ((k + 1 + 1 : Nat) : Int), ((k + 1 + 1 + 1 : Nat) : Int)⟩
def Xj (a b : Int) : Int := if a < b then -1 else if b < a then 1 else 0
def Kh (m : Nat) (n : Int) : Int := if n - m < 0 then -1 else n - m
theorem sz_no {m : Nat} {n : Int} (h : n ≤ 1048576) (h0 : 0 ≤ n) (hm : m ≤ maxLen) (hc : decide (IntKind.i64.wrap (n - (m : Int)) < 0) = true) : Value.int .i64 (-1) = .int .i64 (Kh m n) := by
  unfold maxLen at hm
  rw [wrap_in (by omega) (by omega)] at hc
  have : n - (m : Int) < 0 := by simpa using hc
  simp [Kh, this]
theorem sz_yes {m : Nat} {n : Int} (h : n ≤ 1048576) (h0 : 0 ≤ n) (hm : m ≤ maxLen) (hc : decide (IntKind.i64.wrap (n - (m : Int)) < 0) = false) : Value.int .i64 (IntKind.i64.wrap (n - (m : Int))) = .int .i64 (Kh m n) := by
  unfold maxLen at hm
  rw [wrap_in (by omega) (by omega)] at hc ⊢
  have : ¬ n - (m : Int) < 0 := by simpa using hc
  simp [Kh, this]
theorem X3 {m : Nat} {n : Int} (h : decide (Kh m n < 0) = false) (hn : 0 ≤ n ∧ n ≤ 1048576) : m ≤ 1048576 ∧ 0 ≤ Kh m n ∧ Kh m n ≤ 1048576 ∧ Kh m n = n - m := by
  have h := of_decide_eq_false h
  simp only [Kh] at *
  split at h
  · omega
  · rename_i hx
    rw [if_neg hx]; omega
theorem X4 {m : Nat} {n : Int} (h : decide (Kh m n < 0) = true) (_ : 0 ≤ n) : n < m := by
  have h := of_decide_eq_true h
  simp only [Kh] at *
  split at h <;> omega
theorem Xn {X n : Int} {t : Nat} (h1 : (t : Int) ≤ n) (h2 : X = n - t) : Value.int .i64 X = .int .i64 (Kh t n) := by
  rw [Kh, if_neg (by omega), h2]
theorem Xh {n : Int} {t : Nat} (h : n < t) : Value.int .i64 (-1) = .int .i64 (Kh t n) := by
  rw [Kh, if_pos (by omega)]
section
variable {α : Type} {xs : List α} {f : α → Nat} {k : Nat}
theorem sum_step (h : k < xs.length) : ((xs.take (k + 1)).map f).sum = ((xs.take k).map f).sum + f xs[k] := by
  rw [List.take_succ_eq_append_getElem h, List.map_append, List.sum_append]
  simp only [List.map_cons, List.map_nil, List.sum_cons, List.sum_nil, Nat.add_zero]
theorem sum_le (h : k < xs.length) : ((xs.take k).map f).sum + f xs[k] ≤ (xs.map f).sum := by
  have : xs = xs.take k ++ xs[k] :: xs.drop (k + 1) := by rw [← List.drop_eq_getElem_cons h, List.take_append_drop]
  have h2 : (xs.map f).sum = ((xs.take k ++ xs[k] :: xs.drop (k + 1)).map f).sum := by rw [← this]
  rw [h2, List.map_append, List.sum_append, List.map_cons, List.sum_cons]; omega
theorem sum_all (h : xs.length ≤ k) : ((xs.take k).map f).sum = (xs.map f).sum := by rw [List.take_of_length_le h]
end
section
variable {α : Type} {xs ys : List α} {k : Nat}
theorem eq_len (h : ¬ xs.length = ys.length) : xs ≠ ys := fun e => h (by rw [e])
theorem eqS_step (hp : xs.take k = ys.take k) (h1 : k < xs.length) (h2 : k < ys.length) (h : xs[k] = ys[k]) : xs.take (k + 1) = ys.take (k + 1) := by
  rw [List.take_succ_eq_append_getElem h1, List.take_succ_eq_append_getElem h2, hp, h]
variable [DecidableEq α]
theorem eqS_no (h1 : k < xs.length) (h2 : k < ys.length) (h : ¬ xs[k] = ys[k]) : Value.bool false = .bool (decide (xs = ys)) := by
  have : xs ≠ ys := fun e => h (by subst e; rfl)
  simp [this]
theorem eqS_yes (hp : xs.take k = ys.take k) (hl : xs.length = ys.length) (hk : xs.length ≤ k) : Value.bool true = .bool (decide (xs = ys)) := by
  rw [List.take_of_length_le hk, List.take_of_length_le (by omega)] at hp
  simp [hp]
end
def cmpL : List Int → List Int → Int
  | [], [] => 0
  | [], _ :: _ => -1
  | _ :: _, [] => 1
  | x :: xs, y :: ys => if Xj x y = 0 then cmpL xs ys else Xj x y
section
variable {xs ys : List Int} {k : Nat}
theorem cmpL_cons (hI : cmpL (xs.drop k) (ys.drop k) = cmpL xs ys) (h1 : k < xs.length) (h2 : k < ys.length) : cmpL xs ys = if Xj xs[k] ys[k] = 0 then cmpL (xs.drop (k + 1)) (ys.drop (k + 1)) else Xj xs[k] ys[k] := by
  rw [← hI, List.drop_eq_getElem_cons h1, List.drop_eq_getElem_cons h2, cmpL]
theorem cmpL_step (hI : cmpL (xs.drop k) (ys.drop k) = cmpL xs ys) (h1 : k < xs.length) (h2 : k < ys.length) (h : Xj xs[k] ys[k] = 0) : cmpL (xs.drop (k + 1)) (ys.drop (k + 1)) = cmpL xs ys := by
  rw [cmpL_cons hI h1 h2, if_pos h]
theorem cmpL_1 (hI : cmpL (xs.drop k) (ys.drop k) = cmpL xs ys) (h1 : k < xs.length) (h2 : ys.length ≤ k) : Value.int .i64 1 = .int .i64 (cmpL xs ys) := by
  rw [← hI, List.drop_eq_getElem_cons h1, List.drop_of_length_le h2, cmpL]
theorem cmpL_2 (hI : cmpL (xs.drop k) (ys.drop k) = cmpL xs ys) (h1 : k < xs.length) (h2 : k < ys.length) (h : ¬ Xj xs[k] ys[k] = 0) : Value.int .i64 (Xj xs[k] ys[k]) = .int .i64 (cmpL xs ys) := by
  rw [cmpL_cons hI h1 h2, if_neg h]
theorem cmpL_3 (hI : cmpL (xs.drop k) (ys.drop k) = cmpL xs ys) (h1 : xs.length ≤ k) (h2 : k < ys.length) : Value.int .i64 (-1) = .int .i64 (cmpL xs ys) := by
  rw [← hI, List.drop_eq_getElem_cons h2, List.drop_of_length_le h1, cmpL]
theorem cmpL_4 (hI : cmpL (xs.drop k) (ys.drop k) = cmpL xs ys) (h1 : xs.length ≤ k) (h2 : ys.length ≤ k) : Value.int .i64 0 = .int .i64 (cmpL xs ys) := by
  rw [← hI, List.drop_of_length_le h2, List.drop_of_length_le h1, cmpL]
end
def firstNZ : List Int → Int
  | [] => 0
  | x :: xs => if x = 0 then firstNZ xs else x
section
variable {xs : List Int} {k : Nat}
theorem firstNZ_step (hI : firstNZ (xs.drop k) = firstNZ xs) (h1 : k < xs.length) (h : xs[k] = 0) : firstNZ (xs.drop (k + 1)) = firstNZ xs := by
  rw [← hI, List.drop_eq_getElem_cons h1, firstNZ, if_pos h]
theorem firstNZ_yes (hI : firstNZ (xs.drop k) = firstNZ xs) (h1 : k < xs.length) (h : ¬ xs[k] = 0) : xs[k] = firstNZ xs := by
  rw [← hI, List.drop_eq_getElem_cons h1, firstNZ, if_neg h]
theorem firstNZ_no (hI : firstNZ (xs.drop k) = firstNZ xs) (h1 : xs.length ≤ k) : firstNZ xs = 0 := by
  rw [← hI, List.drop_of_length_le h1, firstNZ]
end
def cellOrd (x y : Cell) : Int := cmpL [x.epoch, x.op, x.key, x.val] [y.epoch, y.op, y.key, y.val]
theorem cellOrd_nz (x y : Cell) : cellOrd x y = firstNZ [Xj x.epoch y.epoch, Xj x.op y.op, Xj x.key y.key, Xj x.val y.val] := by simp [cellOrd, cmpL, firstNZ]
theorem cellOrd_a {x y : Cell} {n : Int} (h : n = firstNZ [Xj x.epoch y.epoch, Xj x.op y.op, Xj x.key y.key, Xj x.val y.val]) : Value.int .i64 n = .int .i64 (cellOrd x y) := by rw [cellOrd_nz, h]
theorem cellOrd_b {x y : Cell} (h : firstNZ [Xj x.epoch y.epoch, Xj x.op y.op, Xj x.key y.key, Xj x.val y.val] = 0) : Value.int .i64 0 = .int .i64 (cellOrd x y) := by rw [cellOrd_nz, h]
section
variable {α : Type} {xs : List α} {x : α} {k : Nat}
variable [DecidableEq α]
def idxI (xs : List α) (x : α) : Int := if x ∈ xs then (xs.idxOf x : Int) else -1
end
def slot (x y : Cell) : Bool := x.op == y.op && x.epoch == y.epoch && x.key == y.key
def leastGo (op epoch key : Int) : List Cell → Int → Bool → Int × Bool
  | [], n, s => (n, s)
  | x :: xs, n, s => if slot x ⟨op, epoch, key, 0⟩ && (!s || decide (x.val < n)) then leastGo op epoch key xs x.val true else leastGo op epoch key xs n s
def leastM (xs : List Cell) (op epoch key : Int) : Int × Bool := leastGo op epoch key xs 0 false
section
variable {xs : List Cell} {op epoch key n : Int} {s : Bool} {k : Nat} {r : Int × Bool}
end
section
variable {α : Type} {xs : List α} {p : α → Bool} {k : Nat}
theorem Y4 (hI : (xs.take k).all p = true) (h1 : k < xs.length) (h : p xs[k] = true) : (xs.take (k + 1)).all p = true := by
  rw [List.take_succ_eq_append_getElem h1, List.all_append, hI]
  simp [h]
theorem all_no (h1 : k < xs.length) (h : p xs[k] = false) : Value.bool false = .bool (xs.all p) := by
  congr 1; symm; rw [List.all_eq_false]
  exact ⟨_, List.getElem_mem h1, by simp [h]⟩
theorem all_yes (hI : (xs.take k).all p = true) (h1 : xs.length ≤ k) : Value.bool true = .bool (xs.all p) := by
  rw [List.take_of_length_le h1] at hI; rw [hI]
def adj : List α → List (α × α)
  | x :: y :: l => (x, y) :: adj (y :: l)
  | _ => []
theorem adj_len : ∀ (xs : List α), (adj xs).length = xs.length - 1
  | [] => rfl
  | [_] => rfl
  | x :: y :: l => by have := adj_len (y :: l); simp only [adj, List.length_cons] at *; omega
theorem adj_get : ∀ (xs : List α) (j : Nat) (h : j + 1 < xs.length) (h' : j < (adj xs).length), (adj xs)[j] = (xs[j], xs[j + 1])
  | x :: y :: l, 0, _, _ => rfl
  | x :: y :: l, j + 1, h, h' => by
    have := adj_get (y :: l) j (by simpa using h) (by simpa [adj] using h')
    simpa [adj] using this
variable {q : α × α → Bool} {j : Nat}
theorem adj_step (hI : ((adj xs).take j).all q = true) (h1 : j + 1 < xs.length) (h : q (xs[j], xs[j + 1]) = true) : ((adj xs).take (j + 1)).all q = true := by
  have h2 : j < (adj xs).length := by rw [adj_len]; omega
  exact Y4 hI h2 (by rw [adj_get xs j h1 h2]; exact h)
theorem adj_no (h1 : j + 1 < xs.length) (h : q (xs[j], xs[j + 1]) = false) : Value.bool false = .bool ((adj xs).all q) := by
  have h2 : j < (adj xs).length := by rw [adj_len]; omega
  exact all_no h2 (by rw [adj_get xs j h1 h2]; exact h)
theorem adj_yes (hI : ((adj xs).take j).all q = true) (h1 : xs.length ≤ j + 1) : Value.bool true = .bool ((adj xs).all q) := all_yes hI (by rw [adj_len]; omega)
end
def nwP (a : List Cell) (x : Cell) : Bool := !(!(leastM a x.op x.epoch x.key).2 || decide (x.val < (leastM a x.op x.epoch x.key).1))
def isOf (op epoch : Int) (x : Cell) : Bool := x.op == op && x.epoch == epoch
def Xw (q : Cell × Cell) : Bool := !decide (0 ≤ cellOrd q.1 q.2)
def Yo (n lo hi : Int) : Bool := decide (lo ≤ n) && decide (n ≤ hi)
def linkM (g : Graph) (a b : Int) : Int := if a < 0 ∨ b < 0 ∨ g.workers ≤ a ∨ g.workers ≤ b then -1 else IntKind.i64.wrap (IntKind.i64.wrap (a * g.workers) + b)
section
variable {x y : Graph} {k : Nat}
end
theorem kx {p q : Bool} (h : (!p || !q) = true) : (p && q) = false := by cases p <;> cases q <;> simp_all
theorem ky {p q : Bool} (h : (!p || !q) = false) : (p && q) = true := by cases p <;> cases q <;> simp_all
theorem kx0 {w p q : Bool} (h : (!p || !q) = true) : ((w && p) && q) = false := by cases w <;> cases p <;> cases q <;> simp_all
theorem ky0 {w p q : Bool} (h : (!p || !q) = false) (hw : w = true) : ((w && p) && q) = true := by cases w <;> cases p <;> cases q <;> simp_all
def kindOk (x : Node) : Bool :=
  if x.kind = 2 then Yo x.a 0 999 && x.b == 0 else if x.kind = 3 then Yo x.a 1 10 && Yo x.b 0 (IntKind.i64.wrap (x.a - 1)) else if x.kind = 4 then Yo x.a 0 99 && x.b == 0
  else Yo x.kind 1 8 && (x.a == 0) && (x.b == 0)
def nodeT (x : Node) : Bool := ((decide (2 < ((x.outs.length : Nat) : Int))) || ((x.kind == 8) && (decide (0 < ((x.outs.length : Nat) : Int))))) || ((((x.outs.length : Nat) : Int) == 2) && ((List.getD x.outs 0 default) == (List.getD x.outs 1 default)))
def nodeOk (x : Node) : Bool := kindOk x && !nodeT x && x.outs.all (Yo · 0 7)
section
variable {x : Node} {k : Nat}
theorem node_k (h : kindOk x = false) : Value.bool false = .bool (nodeOk x) := by simp [nodeOk, h]
theorem node_t (h : nodeT x = true) : Value.bool false = .bool (nodeOk x) := by simp [nodeOk, h]
theorem node_l {h1 : k < x.outs.length} (h : (!(Yo x.outs[k] 0 7)) = true) : Value.bool false = .bool (nodeOk x) := by
  have : x.outs.all (Yo · 0 7) = false := by
    rw [List.all_eq_false]; exact ⟨_, List.getElem_mem h1, by simpa using h⟩
  simp [nodeOk, this]
theorem node_y (hk : kindOk x = true) (ht : nodeT x = false) (hI : (x.outs.take k).all (Yo · 0 7) = true) (h1 : x.outs.length ≤ k) : Value.bool true = .bool (nodeOk x) := by
  rw [List.take_of_length_le h1] at hI
  simp [nodeOk, hk, ht, hI]
theorem node_2 (h : (x.kind == 2) = true) : kindOk x = (Yo x.a 0 999 && x.b == 0) := by simp at h; simp [kindOk, h]
theorem node_3 (h : (x.kind == 3) = true) : kindOk x = (Yo x.a 1 10 && Yo x.b 0 (IntKind.i64.wrap (x.a - 1))) := by simp at h; simp [kindOk, h]
theorem node_4 (h : (x.kind == 4) = true) : kindOk x = (Yo x.a 0 99 && x.b == 0) := by simp at h; simp [kindOk, h]
theorem node_0 (h2 : (x.kind == 2) = false) (h3 : (x.kind == 3) = false) (h4 : (x.kind == 4) = false) : kindOk x = (Yo x.kind 1 8 && (x.a == 0) && (x.b == 0)) := by simp at h2 h3 h4; simp [kindOk, h2, h3, h4]
theorem Xy {n : Int} (h : n = 1 ∨ n = 2 ∨ n = 3 ∨ n = 4 ∨ n = 5 ∨ n = 6 ∨ n = 7 ∨ n = 8) : Yo n 1 8 = true := by
  rcases h with h | h | h | h | h | h | h | h <;> subst h <;> decide
theorem win_not {n : Int} (h : ¬ (n = 1 ∨ n = 2 ∨ n = 3 ∨ n = 4 ∨ n = 5 ∨ n = 6 ∨ n = 7 ∨ n = 8)) : Yo n 1 8 = false := by
  simp only [Yo, Bool.and_eq_false_iff, decide_eq_false_iff_not]; omega
def nodeS (x : Node) (p q : Bool) : Bool := (((!(Yo x.kind 1 8) || !p) || !q) || (decide (2 < ((x.outs.length : Nat) : Int)))) || ((x.kind == 8) && (decide (0 < ((x.outs.length : Nat) : Int))))
theorem node_s {p q : Bool} (hk : kindOk x = (Yo x.kind 1 8 && p && q)) (h : nodeS x p q = true) : Value.bool false = .bool (nodeOk x) := by
  simp only [nodeS] at h
  cases hkk : kindOk x with
  | false => exact node_k hkk
  | true =>
    rw [hkk] at hk
    have hk := hk.symm
    simp only [Bool.and_eq_true] at hk
    obtain ⟨⟨h1, h2⟩, h3⟩ := hk
    simp only [h1, h2, h3, Bool.not_true, Bool.false_or] at h
    exact node_t (by simp only [nodeT, h, Bool.true_or])
theorem node_p {p q : Bool} (h : nodeS x p q = false) (hk : kindOk x = (Yo x.kind 1 8 && p && q)) : kindOk x = true ∧ ((decide (2 < ((x.outs.length : Nat) : Int))) || ((x.kind == 8) && (decide (0 < ((x.outs.length : Nat) : Int))))) = false := by
  simp only [nodeS, Bool.or_eq_false_iff] at h
  obtain ⟨⟨⟨⟨h1, h2⟩, h3⟩, h4⟩, h5⟩ := h
  simp only [Bool.not_eq_false'] at h1 h2 h3
  simp only [hk, h1, h2, h3, h4, h5]; simp
theorem node_d {h1 : k < x.outs.length} (h : ((!(Yo x.outs[k] 0 7)) || ((decide (0 < ((k : Nat) : Int))) && ((List.getD x.outs 0 default) == (List.getD x.outs 1 default)))) = true) (ht : ((decide (2 < ((x.outs.length : Nat) : Int))) || ((x.kind == 8) && (decide (0 < ((x.outs.length : Nat) : Int))))) = false) : Value.bool false = .bool (nodeOk x) := by
  rcases Bool.or_eq_true _ _ ▸ h with h | h
  · exact node_l h
  · simp only [Bool.and_eq_true, decide_eq_true_eq] at h
    have ht2 := (Bool.or_eq_false_iff.1 ht).1
    simp only [decide_eq_false_iff_not] at ht2
    refine node_t ?_
    have : ((x.outs.length : Nat) : Int) = 2 := by omega
    simp only [nodeT, this, h.2]; simp
theorem nodeL {h1 : k < x.outs.length} (h : ((!(Yo x.outs[k] 0 7)) || ((decide (0 < ((k : Nat) : Int))) && ((List.getD x.outs 0 default) == (List.getD x.outs 1 default)))) = false) : Yo x.outs[k] 0 7 = true := by
  have := (Bool.or_eq_false_iff.1 h).1
  simpa using this
theorem nodeJ {h1 : k < x.outs.length} (h : ((!(Yo x.outs[k] 0 7)) || ((decide (0 < ((k : Nat) : Int))) && ((List.getD x.outs 0 default) == (List.getD x.outs 1 default)))) = false) : 1 < k + 1 → ((List.getD x.outs 0 default) == (List.getD x.outs 1 default)) = false := fun hk => by
  have := (Bool.or_eq_false_iff.1 h).2
  have hd : decide (0 < ((k : Nat) : Int)) = true := decide_eq_true (by omega)
  rwa [hd, Bool.true_and] at this
theorem node_z {p q : Bool} (hS : nodeS x p q = false) (hk : kindOk x = (Yo x.kind 1 8 && p && q)) (hI : (x.outs.take k).all (Yo · 0 7) = true) (hJ : 1 < k → ((List.getD x.outs 0 default) == (List.getD x.outs 1 default)) = false) (h1 : x.outs.length ≤ k) : Value.bool true = .bool (nodeOk x) := by
  obtain ⟨hk, ht⟩ := node_p hS hk
  refine node_y hk ?_ hI h1
  simp only [nodeT, ht, Bool.false_or, Bool.and_eq_false_iff]
  by_cases h2 : ((x.outs.length : Nat) : Int) = 2
  · exact .inr (hJ (by omega))
  · exact .inl (by simpa using h2)
end
def kindAt (g : Graph) (to : Int) : Int := (List.getD g.nodes to.toNat default).kind
def edgeBad (g : Graph) (i : Nat) (x : Node) (to : Int) : Bool :=
  decide (((g.nodes.length : Nat) : Int) ≤ to) || (((x.kind == 7) && ((decide (((i : Nat) : Int) < to)) || ((kindAt g to != 5) && (kindAt g to != 6)))) || ((x.kind != 7) && (decide (to ≤ ((i : Nat) : Int)))))
def atOk (_ : Graph) (i : Nat) (x : Node) : Bool := !((!(nodeOk x)) || (!((x.kind == 1) == (((i : Nat) : Int) == 0))))
def nodeAtOk (g : Graph) (i : Nat) (x : Node) : Bool := atOk g i x && x.outs.all (fun to => !edgeBad g i x to)
def headBad (g : Graph) : Bool := ((!(Yo ((g.nodes.length : Nat) : Int) 1 8)) || (!(Yo g.workers 1 4))) || (!(Yo g.cap 1 4))
def Xv (g : Graph) : Bool := !headBad g && (List.range g.nodes.length).all (fun i => nodeAtOk g i (List.getD g.nodes i default))
section
variable {g : Graph} {i k : Nat}
theorem getD_at {α : Type} [Inhabited α] {xs : List α} {i : Nat} (h : i < xs.length) : List.getD xs i default = xs[i] := by simp [List.getD, h]
theorem graph_h (h : headBad g = true) : Value.bool false = .bool (Xv g) := by simp [Xv, h]
theorem graph_n {h1 : i < g.nodes.length} (h : nodeAtOk g i g.nodes[i] = false) : Value.bool false = .bool (Xv g) := by
  have : (List.range g.nodes.length).all (fun i => nodeAtOk g i (List.getD g.nodes i default)) = false := by
    rw [List.all_eq_false]; exact ⟨i, by simpa using h1, by rw [getD_at h1, h]; simp⟩
  simp only [Xv, this, Bool.and_false]
theorem graph_a {h1 : i < g.nodes.length} (h : ((!(nodeOk g.nodes[i])) || (!((g.nodes[i].kind == 1) == (((i : Nat) : Int) == 0)))) = true) : Value.bool false = .bool (Xv g) := graph_n (h1 := h1) (by
  simp only [nodeAtOk, atOk, h]; simp)
theorem graph_e {h1 : i < g.nodes.length} {h2 : k < g.nodes[i].outs.length} (h : edgeBad g i g.nodes[i] (g.nodes[i].outs[k]) = true) : Value.bool false = .bool (Xv g) := graph_n (h1 := h1) (by
  have : g.nodes[i].outs.all (fun to => !edgeBad g i g.nodes[i] to) = false := by
    rw [List.all_eq_false]; exact ⟨_, List.getElem_mem h2, by simp [h]⟩
  simp only [nodeAtOk, this, Bool.and_false])
theorem graph_s {h1 : i < g.nodes.length} (ha : ((!(nodeOk g.nodes[i])) || (!((g.nodes[i].kind == 1) == (((i : Nat) : Int) == 0)))) = false) (hI : (g.nodes[i].outs.take k).all (fun to => !edgeBad g i g.nodes[i] to) = true) (hk : g.nodes[i].outs.length ≤ k)
    (hp : ∀ j, j < i → nodeAtOk g j (List.getD g.nodes j default) = true) : ∀ j, j < i + 1 → nodeAtOk g j (List.getD g.nodes j default) = true := fun j hj => by
  by_cases e : j = i
  · subst e
    rw [List.take_of_length_le hk] at hI
    rw [getD_at h1]; simp only [nodeAtOk, atOk, ha, hI]; simp
  · exact hp j (by omega)
theorem graph_y (hh : headBad g = false) (hp : ∀ j, j < i → nodeAtOk g j (List.getD g.nodes j default) = true) (hi : g.nodes.length ≤ i) : Value.bool true = .bool (Xv g) := by
  have : (List.range g.nodes.length).all (fun i => nodeAtOk g i (List.getD g.nodes i default)) = true := by
    rw [List.all_eq_true]; intro j hj; exact hp j (by have := List.mem_range.1 hj; omega)
  simp only [Xv, this, hh]; simp
theorem edge_a {x : Node} {to : Int} (h : decide (((g.nodes.length : Nat) : Int) ≤ to) = true) : edgeBad g i x to = true := by simp only [edgeBad, h, Bool.true_or]
theorem edge_b {x : Node} {to K : Int} (hK : K = kindAt g to) (h : (((x.kind == 7) && ((decide (((i : Nat) : Int) < to)) || ((K != 5) && (K != 6)))) || ((x.kind != 7) && (decide (to ≤ ((i : Nat) : Int))))) = true) : edgeBad g i x to = true := by
  subst hK; simp only [edgeBad, h, Bool.or_true]
theorem edge_n {x : Node} {to K : Int} (hK : K = kindAt g to) (h1 : decide (((g.nodes.length : Nat) : Int) ≤ to) = false) (h : (((x.kind == 7) && ((decide (((i : Nat) : Int) < to)) || ((K != 5) && (K != 6)))) || ((x.kind != 7) && (decide (to ≤ ((i : Nat) : Int))))) = false) : (!edgeBad g i x to) = true := by
  subst hK; simp only [edgeBad, h, h1, Bool.or_false, Bool.not_false]
theorem edge_s1 {x : Node} {to : Int} (h : ((decide (((g.nodes.length : Nat) : Int) ≤ to)) || ((x.kind != 7) && (decide (to ≤ ((i : Nat) : Int))))) = true) : edgeBad g i x to = true := by
  rcases Bool.or_eq_true _ _ ▸ h with h | h
  · exact edge_a h
  · simp only [edgeBad, h, Bool.or_true]
theorem edge_s2 {x : Node} {to K : Int} (hK : K = kindAt g to) (h : ((x.kind == 7) && ((decide (((i : Nat) : Int) < to)) || ((K != 5) && (K != 6)))) = true) : edgeBad g i x to = true := edge_b hK (by rw [h]; rfl)
theorem edge_sn {x : Node} {to K : Int} (hK : K = kindAt g to) (h1 : ((decide (((g.nodes.length : Nat) : Int) ≤ to)) || ((x.kind != 7) && (decide (to ≤ ((i : Nat) : Int))))) = false) (h : ((x.kind == 7) && ((decide (((i : Nat) : Int) < to)) || ((K != 5) && (K != 6)))) = false) : (!edgeBad g i x to) = true :=
  edge_n hK (Bool.or_eq_false_iff.1 h1).1 (by rw [h, (Bool.or_eq_false_iff.1 h1).2]; rfl)
theorem edge_lt {n to : Int} {q : Bool} (h : ((decide (n ≤ to)) || q) = false) : to < n := by
  have := of_decide_eq_false (Bool.or_eq_false_iff.1 h).1
  omega
theorem graph_to {h1 : i < g.nodes.length} {h2 : k < g.nodes[i].outs.length} (ha : ((!(nodeOk g.nodes[i])) || (!((g.nodes[i].kind == 1) == (((i : Nat) : Int) == 0)))) = false) : 0 ≤ g.nodes[i].outs[k] := by
  have hn : nodeOk g.nodes[i] = true := by simpa using (Bool.or_eq_false_iff.1 ha).1
  simp only [nodeOk, Bool.and_eq_true, List.all_eq_true] at hn
  have := hn.2 _ (List.getElem_mem h2)
  simp only [Yo, Bool.and_eq_true, decide_eq_true_eq] at this
  exact this.1
end
def ofE (e : Int) (r : Record) : Bool := r.stamp.epoch == e
def workAt (x : Worker) (e : Int) : Int := IntKind.i64.wrap (((x.queue.filter (ofE e)).length : Int) + ((x.staged.filter (ofE e)).length : Int))
def openAt (x : Worker) (e : Int) : Bool := x.inputs.any fun r => decide (r.stamp.epoch ≤ e)
def idle (x : Worker) : Bool := (x.queue.length == 0) && (x.staged.length == 0) && (x.inputs.length == 0)
def isDone (x : Worker) (e : Int) : Bool := x.dones.any fun d => d.epoch == e
def mkInt (k : Nat) : Int := ((k : Nat) : Int)
def mkBool (k : Nat) : Bool := Int.tmod ((k : Nat) : Int) 3 == 0
def Kc (k : Nat) : Record := ⟨((k : Nat) : Int), ⟨((k + 1 : Nat) : Int), ((k + 1 + 1 : Nat) : Int)⟩, ((k + 1 + 1 + 1 : Nat) : Int), ((k + 1 + 1 + 1 + 1 : Nat) : Int)⟩
def mkDone (k : Nat) : Done := ⟨((k : Nat) : Int), Int.tmod ((k + 1 : Nat) : Int) 3 == 0⟩
def mkToken (k : Nat) : Token := ⟨Int.tmod ((k : Nat) : Int) 3 == 0, ((k + 1 : Nat) : Int), ((k + 1 + 1 : Nat) : Int), Int.tmod ((k + 1 + 1 + 1 : Nat) : Int) 3 == 0, Int.tmod ((k + 1 + 1 + 1 + 1 : Nat) : Int) 3 == 0⟩
def mkNews (k : Nat) : News := ⟨((k : Nat) : Int), ((k + 1 : Nat) : Int), Int.tmod ((k + 1 + 1 : Nat) : Int) 3 == 0⟩
def numW (k : Nat) (x : Worker) : Nat := k + 5 * x.queue.length + 5 * x.staged.length + 5 * x.inputs.length + 4 * x.cells.length + 1 * x.sums.length + 1 * x.black.length + 1 * x.caps.length + 2 * x.dones.length
def markW (k : Nat) (x : Worker) : Worker :=
  ⟨mkL 5 Kc k x.queue.length, mkL 5 Kc (k + 5 * x.queue.length) x.staged.length, mkL 5 Kc (k + 5 * x.queue.length + 5 * x.staged.length) x.inputs.length,
    mkL 4 mkCell (k + 5 * x.queue.length + 5 * x.staged.length + 5 * x.inputs.length) x.cells.length, mkL 1 mkInt (k + 5 * x.queue.length + 5 * x.staged.length + 5 * x.inputs.length + 4 * x.cells.length) x.sums.length,
    mkL 1 mkBool (k + 5 * x.queue.length + 5 * x.staged.length + 5 * x.inputs.length + 4 * x.cells.length + 1 * x.sums.length) x.black.length,
    mkL 1 mkBool (k + 5 * x.queue.length + 5 * x.staged.length + 5 * x.inputs.length + 4 * x.cells.length + 1 * x.sums.length + 1 * x.black.length) x.caps.length,
    mkL 2 mkDone (k + 5 * x.queue.length + 5 * x.staged.length + 5 * x.inputs.length + 4 * x.cells.length + 1 * x.sums.length + 1 * x.black.length + 1 * x.caps.length) x.dones.length⟩
theorem numW_mark (j k : Nat) (x : Worker) : numW j (markW k x) = numW j x := by simp [numW, markW, Qj]
theorem markW_idem (k : Nat) (x : Worker) : markW k x = markW k (markW k x) := by simp [markW, Qj]
theorem cntW_mark (k : Nat) (x : Worker) : Yd (markW k x) = Yd x := by simp [Yd, markW, Qj]
theorem any_step {α : Type} {xs : List α} {p : α → Bool} {k : Nat} (hI : (xs.take k).any p = false) (h1 : k < xs.length) (h : p xs[k] = false) : (xs.take (k + 1)).any p = false := by
  rw [List.take_succ_eq_append_getElem h1, List.any_append, hI]; simp [h]
def findI {α : Type} (xs : List α) (p : α → Bool) : Int := if xs.any p then ((xs.findIdx p : Nat) : Int) else -1
theorem find_yes {α : Type} {xs : List α} {p : α → Bool} {k : Nat} (hI : (xs.take k).any p = false) (h1 : k < xs.length) (h : p xs[k] = true) : Value.int .i64 ((k : Nat) : Int) = .int .i64 (findI xs p) := by
  have ha : xs.any p = true := by rw [List.any_eq_true]; exact ⟨_, List.getElem_mem h1, h⟩
  have : xs.findIdx p = k := by
    rw [List.findIdx_eq h1]
    refine ⟨h, fun j hj => ?_⟩
    rw [List.any_eq_false] at hI
    have := hI xs[j] (by rw [List.mem_take_iff_getElem]; exact ⟨j, by omega, rfl⟩)
    simpa using this
  simp [findI, ha, this]
theorem find_no {α : Type} {xs : List α} {p : α → Bool} {k : Nat} (hI : (xs.take k).any p = false) (h1 : xs.length ≤ k) : Value.int .i64 (-1) = .int .i64 (findI xs p) := by
  rw [List.take_of_length_le h1] at hI; simp [findI, hI]
theorem any_find {α : Type} {xs : List α} {p : α → Bool} : Value.bool (decide (0 ≤ findI xs p)) = .bool (xs.any p) := by
  unfold findI
  cases h : xs.any p <;> simp
def stampOk (s : Stamp) : Bool := Yo s.epoch 0 3 && Yo s.turn 0 6
def Kb (r : Record) : Bool := (Yo r.op 0 7 && stampOk r.stamp) && (Yo r.key 0 99 && Yo r.val 0 999)
def isNodeM (g : Graph) (op : Int) : Bool := Yo op 0 (((g.nodes.length : Nat) : Int) - 1)
def Xg (g : Graph) (r : Record) : Bool := Kb r && isNodeM g r.op
def nextT (s : Stamp) : Stamp × Bool := if (!(stampOk s) || (s.turn == 6)) = true then (s, false) else (⟨s.epoch, s.turn + 1⟩, true)
theorem win_iff {n lo hi : Int} : Yo n lo hi = true ↔ lo ≤ n ∧ n ≤ hi := by simp [Yo]
theorem op_yes {g : Graph} {r : Record} (h : (!(Kb r) || decide (((g.nodes.length : Nat) : Int) ≤ r.op)) = false) : Xg g r = true := by
  simp only [Bool.or_eq_false_iff, Bool.not_eq_false', decide_eq_false_iff_not] at h
  have h1 := h.1
  simp only [Kb, Bool.and_eq_true, win_iff] at h1
  simp only [Xg, h.1, isNodeM, Bool.true_and, win_iff]; omega
theorem op_no {g : Graph} {r : Record} (h : (!(Kb r) || decide (((g.nodes.length : Nat) : Int) ≤ r.op)) = true) : Xg g r = false := by
  cases h1 : Kb r with
  | false => simp [Xg, h1]
  | true =>
    simp [h1] at h
    simp only [Xg, h1, isNodeM, Bool.true_and, Yo, Bool.and_eq_false_iff, decide_eq_false_iff_not]; omega
theorem bf {a : Bool} (h : a = true → False) : Value.bool false = .bool a := by cases a <;> simp_all
theorem bt {a : Bool} (h : a = true) : Value.bool true = .bool a := by rw [h]
def allR (n : Nat) (P : Nat → Bool) : Bool := (List.range n).all P
theorem allR_s {n : Nat} {P : Nat → Bool} (h : allR n P = true) (hp : P n = true) : allR (n + 1) P = true := by
  simp only [allR, List.range_succ, List.all_append] at *
  simp [h, hp]
theorem allR_get {n j : Nat} {P : Nat → Bool} (h : allR n P = true) (hj : j < n) : P j = true := List.all_eq_true.1 h j (List.mem_range.2 hj)
theorem allR_le {n m : Nat} {P : Nat → Bool} (h : allR n P = true) (hm : m ≤ n) : allR m P = true := List.all_eq_true.2 fun j hj => allR_get h (by have := List.mem_range.1 hj; omega)
theorem all_end {α : Type} {xs : List α} {p : α → Bool} {k : Nat} (hI : (xs.take k).all p = true) (h1 : xs.length ≤ k) : xs.all p = true := by rwa [List.take_of_length_le h1] at hI
def inAt (xs : List Record) (j : Nat) : Bool :=
  !((((List.getD xs j default).op != 0) || ((List.getD xs j default).stamp.turn != 0)) || (decide (0 < ((j : Nat) : Int)) && decide ((List.getD xs j default).stamp.epoch < (List.getD xs (j - 1) default).stamp.epoch)))
theorem inAt_at {xs : List Record} {j : Nat} (h : j < xs.length) : inAt xs j = !(((xs[j].op != 0) || (xs[j].stamp.turn != 0)) || (decide (0 < ((j : Nat) : Int)) && decide (xs[j].stamp.epoch < (List.getD xs (j - 1) default).stamp.epoch))) := by
  simp only [inAt, getD_at h]
def doneAtOk (xs : List Done) (j : Nat) : Bool := !(!(Yo (List.getD xs j default).epoch 0 3) || (xs.take j).any (fun d => d.epoch == (List.getD xs j default).epoch))
theorem doneAtOk_at {xs : List Done} {j : Nat} (h : j < xs.length) : doneAtOk xs j = !(!(Yo xs[j].epoch 0 3) || (xs.take j).any (fun d => d.epoch == xs[j].epoch)) := by
  simp only [doneAtOk, getD_at h]
def Xe (g : Graph) (x : Worker) : Bool :=
  x.queue.all (Xg g) && x.staged.all (Xg g) && x.inputs.all (Xg g) && (adj x.cells).all Xw && allR x.inputs.length (fun j => inAt x.inputs j) &&
    (((x.sums.length : Nat) : Int) == 4) && (((x.black.length : Nat) : Int) == 4) && (((x.caps.length : Nat) : Int) == 4) && x.sums.all (Yo · (-1000000) 1000000) && allR x.dones.length (fun j => doneAtOk x.dones j)
theorem wk_yes1 {g : Graph} {x : Worker} (h1 : (((!(x.queue.all (Xg g)) || !(x.staged.all (Xg g))) || !(x.inputs.all (Xg g))) || !((adj x.cells).all Xw)) = false) (h2 : allR x.inputs.length (fun j => inAt x.inputs j) = true)
    (h3 : (((((x.sums.length : Nat) : Int) != 4) || (((x.black.length : Nat) : Int) != 4)) || (((x.caps.length : Nat) : Int) != 4)) = false) (h4 : x.sums.all (Yo · (-1000000) 1000000) = true) (h5 : allR x.dones.length (fun j => doneAtOk x.dones j) = true) :
    Value.bool true = .bool (Xe g x) := by
  simp only [Bool.or_eq_false_iff, Bool.not_eq_false', bne_eq_false_iff_eq] at h1 h3
  obtain ⟨⟨⟨a1, a2⟩, a3⟩, a4⟩ := h1
  obtain ⟨⟨b1, b2⟩, b3⟩ := h3
  exact bt (by simp only [Xe, a1, a2, a3, a4, h2, b1, b2, b3, h4, h5]; rfl)
section
variable {x y : Worker}
end
theorem wk_len {g : Graph} {x : Worker} (h : ((((((!(x.queue.all (Xg g)) || !(x.staged.all (Xg g))) || !(x.inputs.all (Xg g))) || !((adj x.cells).all Xw)) || (((x.sums.length : Nat) : Int) != 4)) || (((x.black.length : Nat) : Int) != 4)) || (((x.caps.length : Nat) : Int) != 4)) = false) : x.sums.length = 4 := by
  simp at h; omega
theorem wk_yes2 {g : Graph} {x : Worker} (h : ((((((!(x.queue.all (Xg g)) || !(x.staged.all (Xg g))) || !(x.inputs.all (Xg g))) || !((adj x.cells).all Xw)) || (((x.sums.length : Nat) : Int) != 4)) || (((x.black.length : Nat) : Int) != 4)) || (((x.caps.length : Nat) : Int) != 4)) = false) (h2 : allR x.inputs.length (fun j => inAt x.inputs j) = true)
    (h4 : x.sums.all (Yo · (-1000000) 1000000) = true) (h5 : allR x.dones.length (fun j => doneAtOk x.dones j) = true) : Value.bool true = .bool (Xe g x) := by
  simp only [Bool.or_eq_false_iff, Bool.not_eq_false', bne_eq_false_iff_eq] at h
  obtain ⟨⟨⟨⟨⟨⟨a1, a2⟩, a3⟩, a4⟩, b1⟩, b2⟩, b3⟩ := h
  exact bt (by simp only [Xe, a1, a2, a3, a4, h2, b1, b2, b3, h4, h5]; rfl)
section
variable {xs : List Done} {i j : Nat}
theorem done_s {h1 : i < xs.length} (hw : (!(Yo xs[i].epoch 0 3)) = false) (hJ : (xs.take j).any (fun d => d.epoch == xs[i].epoch) = false) (hj : i ≤ j) : doneAtOk xs i = true := by
  rw [doneAtOk_at h1, hw]
  have : (xs.take i).any (fun d => d.epoch == xs[i].epoch) = false := by
    rw [List.any_eq_false] at *
    intro d hd
    refine hJ d ?_
    rw [List.mem_take_iff_getElem] at *
    obtain ⟨q, hq, rfl⟩ := hd
    exact ⟨q, by omega, rfl⟩
  simp [this]
theorem done_n {h1 : i < xs.length} {h2 : j < xs.length} (h : doneAtOk xs i = true) (hj : j < i) (he : (xs[j].epoch == xs[i].epoch) = true) : False := by
  rw [doneAtOk_at h1] at h
  have : (xs.take i).any (fun d => d.epoch == xs[i].epoch) = true := by
    rw [List.any_eq_true]
    exact ⟨xs[j], by rw [List.mem_take_iff_getElem]; exact ⟨j, by omega, rfl⟩, he⟩
  simp [this] at h
end
theorem isNode_of {g : Graph} {op : Int} (h : isNodeM g op = true) : 0 ≤ op ∧ op < ((g.nodes.length : Nat) : Int) ∧ Int.toNat op < g.nodes.length := by
  simp only [isNodeM, win_iff] at h; omega
theorem isN_w {n : Nat} (h : n ≤ maxLen) : IntKind.i64.wrap (((n : Nat) : Int) - 1) = ((n : Nat) : Int) - 1 := by
  unfold maxLen at h
  rw [wrap_in (by omega) (by omega)]
def nodeOf (g : Graph) (op : Int) : Node × Bool := if isNodeM g op = true then (List.getD g.nodes (Int.toNat op) default, true) else (⟨0, 0, 0, []⟩, false)
theorem mem_cnt {α : Type} {f : α → Nat} : ∀ {xs : List α} {x : α}, x ∈ xs → f x ≤ (xs.map f).sum
  | y :: ys, x, h => by
    rcases List.mem_cons.1 h with rfl | h
    · simp
    · have := mem_cnt (f := f) h; simp; omega
theorem outs_le {g : Graph} {x : Node} (h : Y6 g ≤ 1048576) (hx : x ∈ g.nodes) : x.outs.length ≤ 1048576 := by
  have := mem_cnt (f := Xr) hx
  simp only [Y6, Xu] at h
  simp only [Xr] at this; omega
def cappedM (g : Graph) (r : Record) : Bool := ((((((nodeOf g r.op).2 && Xv g) && Kb r) && ((nodeOf g r.op).1.kind == 7)) && decide (0 < (((nodeOf g r.op).1.outs.length : Nat) : Int))) && !(nextT r.stamp).2)
def addOut (f : List Int) (k : Int) : List Int := if k ∈ f then f else f ++ [k]
def addOuts (f outs : List Int) : List Int := outs.foldl addOut f
def reachGo (g : Graph) : Nat → Nat → List Int → List Int
  | 0, _, f => f
  | n + 1, i, f => if i < f.length then reachGo g n (i + 1) (addOuts f (List.getD g.nodes (Int.toNat (List.getD f i default)) default).outs) else f
def reachL (g : Graph) (a : Int) : List Int := reachGo g 10 0 (List.getD g.nodes (Int.toNat a) default).outs
def reaches (g : Graph) (a b : Int) : Bool := (Xv g && isNodeM g a) && decide (b ∈ reachL g a)
def GoodF (g : Graph) (f0 f : List Int) : Prop := (∃ nw, f = f0 ++ nw ∧ nw.Nodup) ∧ ∀ x ∈ f, 0 ≤ x ∧ x < ((g.nodes.length : Nat) : Int)
section
variable {g : Graph} {f0 f f2 outs : List Int} {i j n : Nat} {a b k : Int}
theorem gok_len (h : Xv g = true) : 1 ≤ g.nodes.length ∧ g.nodes.length ≤ 8 := by
  simp only [Xv, headBad, Bool.and_eq_true, Bool.not_eq_true', Bool.or_eq_false_iff, Bool.not_eq_false'] at h
  have := win_iff.1 h.1.1.1; omega
theorem gok_at (h : Xv g = true) (hi : i < g.nodes.length) : nodeAtOk g i g.nodes[i] = true := by
  simp only [Xv, Bool.and_eq_true] at h
  have := List.all_eq_true.1 h.2 i (List.mem_range.2 hi)
  rwa [getD_at hi] at this
theorem outs_two (h : Xv g = true) (hi : i < g.nodes.length) : (List.getD g.nodes i default).outs.length ≤ 2 := by
  have hn := gok_at h hi
  simp only [nodeAtOk, atOk, Bool.and_eq_true, Bool.not_eq_true', Bool.or_eq_false_iff, Bool.not_eq_false'] at hn
  have h1 := hn.1.1
  simp only [nodeOk, nodeT, Bool.and_eq_true, Bool.not_eq_true', Bool.or_eq_false_iff, decide_eq_false_iff_not] at h1
  rw [getD_at hi]; omega
end
def hasLoopM (g : Graph) : Bool := !allR g.nodes.length (fun j => !reaches g ((j : Nat) : Int) ((j : Nat) : Int))
def numNd (k : Nat) (x : Node) : Nat := k + 1 * x.outs.length
def markNd (k : Nat) (x : Node) : Node := ⟨x.kind, x.a, x.b, mkL 1 mkInt k x.outs.length⟩
def markN1 (k : Nat) (x : Node) : Node := ⟨((k : Nat) : Int), ((k + 1 : Nat) : Int), ((k + 1 + 1 : Nat) : Int), mkL 1 mkInt (k + 1 + 1 + 1) x.outs.length⟩
def X6 (k : Nat) (x : Node) : Nat := k + 1 + 1 + 1 + 1 * x.outs.length
def X7 {α : Type} (n : Nat → α → Nat) : Nat → List α → Nat
  | k, [] => k
  | k, x :: xs => X7 n (n k x) xs
def markA {α : Type} (n : Nat → α → Nat) (m : Nat → α → α) : Nat → List α → List α
  | _, [] => []
  | k, x :: xs => m k x :: markA n m (n k x) xs
section
variable {α : Type} {n : Nat → α → Nat} {m : Nat → α → α} {cnt : α → Nat} {c : Nat}
theorem markA_length : ∀ (k : Nat) (xs : List α), (markA n m k xs).length = xs.length
  | _, [] => rfl
  | k, x :: xs => by simp [markA, markA_length]
theorem numA_snoc : ∀ (k : Nat) (xs : List α) (x : α), X7 n k (xs ++ [x]) = n (X7 n k xs) x
  | _, [], _ => rfl
  | k, y :: xs, x => by simp only [List.cons_append, X7]; exact numA_snoc _ xs x
theorem markA_snoc : ∀ (k : Nat) (xs : List α) (x : α), markA n m k (xs ++ [x]) = markA n m k xs ++ [m (X7 n k xs) x]
  | _, [], _ => rfl
  | k, y :: xs, x => by simp only [List.cons_append, markA, X7, markA_snoc _ xs x]
theorem numA_take {k i : Nat} {xs : List α} (h : i < xs.length) : X7 n k (xs.take (i + 1)) = n (X7 n k (xs.take i)) xs[i] := by
  rw [List.take_succ_eq_append_getElem h, numA_snoc]
theorem markA_take {k i : Nat} {xs r : List α} (h : i < xs.length) : markA n m k (xs.take (i + 1)) ++ r = markA n m k (xs.take i) ++ m (X7 n k (xs.take i)) xs[i] :: r := by
  rw [List.take_succ_eq_append_getElem h, markA_snoc]; simp
theorem numA_bd (h : ∀ k x, n k x ≤ k + c * (1 + cnt x)) : ∀ (k : Nat) (xs : List α), X7 n k xs ≤ k + c * Xu cnt xs
  | _, [] => by simp [X7]
  | k, x :: xs => by
    have h1 := numA_bd h (n k x) xs
    have h2 := h k x
    simp only [X7, Xu, List.map_cons, List.sum_cons, List.length_cons, Nat.mul_add] at *; omega
theorem cntL_take {i : Nat} {xs : List α} : Xu cnt (xs.take i) ≤ Xu cnt xs := by
  unfold Xu
  induction xs generalizing i with
  | nil => simp
  | cons x xs ih =>
    cases i with
    | zero => simp
    | succ i => have := @ih i; simp only [List.take_succ_cons, List.length_cons, List.map_cons, List.sum_cons] at *; omega
theorem numA_le {k i : Nat} {xs : List α} (h : ∀ k x, n k x ≤ k + c * (1 + cnt x)) (hi : i < xs.length) : n (X7 n k (xs.take i)) xs[i] ≤ k + c * Xu cnt xs := by
  rw [← numA_take (n := n) hi]
  exact Nat.le_trans (numA_bd h k _) (Nat.add_le_add_left (Nat.mul_le_mul_left _ cntL_take) _)
theorem numA_mark (h : ∀ j k x, n j (m k x) = n j x) : ∀ (j k : Nat) (xs : List α), X7 n j (markA n m k xs) = X7 n j xs
  | _, _, [] => rfl
  | j, k, x :: xs => by simp only [markA, X7, h, numA_mark h _ _ xs]
theorem markA_idem (hn : ∀ j k x, n j (m k x) = n j x) (h : ∀ k x, m k (m k x) = m k x) : ∀ (k : Nat) (xs : List α), markA n m k (markA n m k xs) = markA n m k xs
  | _, [] => rfl
  | k, x :: xs => by simp only [markA, h, hn, markA_idem hn h _ xs]
theorem cntA_mark (h : ∀ k x, cnt (m k x) = cnt x) : ∀ (k : Nat) (xs : List α), Xu cnt (markA n m k xs) = Xu cnt xs
  | _, [] => rfl
  | k, x :: xs => by
    have := cntA_mark h (n k x) xs
    simp only [Xu, markA, List.length_cons, List.map_cons, List.sum_cons, h] at *; omega
theorem markA_at {k i : Nat} {xs : List α} (hm : xs = markA n m k xs) (hi : i < xs.length) : xs[i] = m (X7 n k (xs.take i)) xs[i] := by
  have h := markA_take (n := n) (m := m) (k := k) (r := markA n m (X7 n k (xs.take (i + 1))) (xs.drop (i + 1))) hi
  have happ : ∀ (k : Nat) (a b : List α), markA n m k (a ++ b) = markA n m k a ++ markA n m (X7 n k a) b := by
    intro k a b
    induction a generalizing k with
    | nil => rfl
    | cons x a ih => simp only [List.cons_append, markA, X7, ih]
  rw [← happ, List.take_append_drop, ← hm] at h
  have hl : (markA n m k (xs.take i)).length = i := by rw [markA_length]; simp; omega
  have := congrArg (fun l => l[i]?) h
  simp only [List.getElem?_append_right (Nat.le_of_eq hl), hl, Nat.sub_self, List.getElem?_cons_zero] at this
  rw [List.getElem?_eq_getElem hi, Option.some.injEq] at this
  exact this
end
theorem numN1_bd (k : Nat) (x : Node) : X6 k x ≤ k + 4 * (1 + Xr x) := by simp only [X6, Xr]; omega
def numL1 (k : Nat) (x : Link) : Nat := k + 1 + 5 * x.queue.length + 1 + 1 + 1 + 1
def markL1 (k : Nat) (x : Link) : Link := ⟨((k : Nat) : Int), mkL 5 Kc (k + 1) x.queue.length, ((k + 1 + 5 * x.queue.length : Nat) : Int), ((k + 1 + 5 * x.queue.length + 1 : Nat) : Int), ((k + 1 + 5 * x.queue.length + 1 + 1 : Nat) : Int), ((k + 1 + 5 * x.queue.length + 1 + 1 + 1 : Nat) : Int)⟩
theorem numL1_bd (k : Nat) (x : Link) : numL1 k x ≤ k + 5 * (1 + Y9 x) := by simp only [numL1, Y9]; omega
theorem numW_bd (k : Nat) (x : Worker) : numW k x ≤ k + 5 * (1 + Yd x) := by simp only [numW, Yd]; omega
def numCl (k : Nat) (x : Cluster) : Nat := X7 numL1 (X7 numW (X7 X6 k x.graph.nodes) x.workers) x.links + 5 * x.tokens.length + 3 * x.news.length
def markCl (k : Nat) (x : Cluster) : Cluster :=
  ⟨⟨markA X6 markN1 k x.graph.nodes, x.graph.workers, x.graph.cap⟩, markA numW markW (X7 X6 k x.graph.nodes) x.workers, markA numL1 markL1 (X7 numW (X7 X6 k x.graph.nodes) x.workers) x.links,
    mkL 5 mkToken (X7 numL1 (X7 numW (X7 X6 k x.graph.nodes) x.workers) x.links) x.tokens.length, mkL 3 mkNews (X7 numL1 (X7 numW (X7 X6 k x.graph.nodes) x.workers) x.links + 5 * x.tokens.length) x.news.length⟩
def outsTo (g : Graph) (k : Nat) : List Int := ((List.range k).filter (fun i => (List.getD g.nodes i default).kind == 8)).map fun i => ((i : Nat) : Int)
def outOf (g : Graph) (x : Cell) : Bool := isNodeM g x.op && ((List.getD g.nodes (Int.toNat x.op) default).kind == 8)
def workerNew (xs : List Record) : Worker := ⟨[], [], xs, [], [0, 0, 0, 0], [false, false, false, false], [false, false, false, false], []⟩
def keptW (x : Worker) (r : Record) : Worker := ⟨x.queue ++ [r], x.staged, x.inputs, x.cells, x.sums, x.black, x.caps, x.dones⟩
def sentW (x : Worker) (e : Int) : Worker := if 0 ≤ e ∧ e < ((x.sums.length : Nat) : Int) then ⟨x.queue, x.staged, x.inputs, x.cells, x.sums.set (Int.toNat e) (IntKind.i64.wrap (List.getD x.sums (Int.toNat e) default + 1)), x.black, x.caps, x.dones⟩ else x
def recvOk (x : Worker) (r : Record) : Prop := 0 ≤ r.stamp.epoch ∧ r.stamp.epoch < ((x.sums.length : Nat) : Int) ∧ r.stamp.epoch < ((x.black.length : Nat) : Int) ∧ Int.toNat r.stamp.epoch < x.sums.length ∧ Int.toNat r.stamp.epoch < x.black.length
instance (x : Worker) (r : Record) : Decidable (recvOk x r) := by unfold recvOk; infer_instance
def recvW (x : Worker) (r : Record) : Worker := if recvOk x r then ⟨x.queue ++ [r], x.staged, x.inputs, x.cells, x.sums.set (Int.toNat r.stamp.epoch) (IntKind.i64.wrap (List.getD x.sums (Int.toNat r.stamp.epoch) default - 1)), x.black.set (Int.toNat r.stamp.epoch) true, x.caps, x.dones⟩ else keptW x r
section
variable {x y : Cluster}
end
def goN (xs : List Token) : Nat := (xs.filter (fun t => t.going)).length
def defS (e n : Int) (x : Worker) : Int := if 0 ≤ e ∧ e < ((x.sums.length : Nat) : Int) then IntKind.i64.wrap (n + List.getD x.sums (Int.toNat e) default) else n
def defTo (c : Cluster) (e : Int) (k : Nat) : Int := (c.workers.take k).foldl (defS e) 0
def linkOk (l : Link) : Bool := (((((((Yo l.cap 1 4 && Yo l.credits 0 l.cap) && Yo l.back 0 l.cap) && (IntKind.i64.wrap (IntKind.i64.wrap (l.credits + l.back) + ((l.queue.length : Nat) : Int)) == l.cap)) && Yo l.sent 0 1000000000) && (l.got == l.sent - ((l.queue.length : Nat) : Int))) && decide (0 ≤ l.got)) && l.queue.all Kb)
section
variable {x : Link}
theorem lk_i1 (h : linkOk x = true) (hc : ((((!(Yo x.cap 1 4)) || (!(Yo x.credits 0 x.cap))) || (!(Yo x.back 0 x.cap))) || (IntKind.i64.wrap (IntKind.i64.wrap (x.credits + x.back) + ((x.queue.length : Nat) : Int)) != x.cap)) = true) : False := by
  simp only [linkOk, Bool.and_eq_true, beq_iff_eq] at h
  obtain ⟨⟨⟨⟨⟨⟨⟨h1, h2⟩, h3⟩, h4⟩, h5⟩, h6⟩, h7⟩, h8⟩ := h
  simp [h1, h2, h3, h4] at hc
theorem lk_i2 (hr : rg x.got) (h : linkOk x = true) (hc : (((!(Yo x.sent 0 1000000000)) || (decide (x.got < 0))) || (IntKind.i64.wrap (x.sent - x.got) != ((x.queue.length : Nat) : Int))) = true) : False := by
  simp only [linkOk, Bool.and_eq_true, beq_iff_eq, decide_eq_true_eq] at h
  obtain ⟨⟨⟨⟨⟨⟨⟨h1, h2⟩, h3⟩, h4⟩, h5⟩, h6⟩, h7⟩, h8⟩ := h
  have hs := win_iff.1 h5
  unfold rg at hr
  rw [wrap_in (by omega) (by omega)] at hc
  simp [h5] at hc
  omega
theorem lk_i3 (hr : rg x.got) (hc : ((((!(Yo x.cap 1 4)) || (!(Yo x.credits 0 x.cap))) || (!(Yo x.back 0 x.cap))) || (IntKind.i64.wrap (IntKind.i64.wrap (x.credits + x.back) + ((x.queue.length : Nat) : Int)) != x.cap)) = false)
    (hc2 : (((!(Yo x.sent 0 1000000000)) || (decide (x.got < 0))) || (IntKind.i64.wrap (x.sent - x.got) != ((x.queue.length : Nat) : Int))) = false) : linkOk x = x.queue.all Kb := by
  simp only [Bool.or_eq_false_iff, Bool.not_eq_false', bne_eq_false_iff_eq, decide_eq_false_iff_not] at hc hc2
  obtain ⟨⟨⟨h1, h2⟩, h3⟩, h4⟩ := hc
  obtain ⟨⟨h5, h6⟩, h7⟩ := hc2
  have hs := win_iff.1 h5
  unfold rg at hr
  rw [wrap_in (by omega) (by omega)] at h7
  have h8 : (x.got == x.sent - ((x.queue.length : Nat) : Int)) = true := by rw [beq_iff_eq]; omega
  have h9 : decide (0 ≤ x.got) = true := decide_eq_true (by omega)
  simp only [linkOk, h1, h2, h3, h4, h5, h8, h9]; simp
theorem lk_s1 {k : Nat} (h1 : k < x.queue.length) (h : linkOk x = true) (hc : (!(Kb x.queue[k])) = true) : False := by
  simp only [linkOk, Bool.and_eq_true] at h
  have := List.all_eq_true.1 h.2 _ (List.getElem_mem h1)
  simp [this] at hc
theorem lk_s2 (hm : x.queue.length ≤ maxLen) (ha : x.queue.all Kb = true) : linkOk x = ((((((Yo x.cap 1 4 && Yo x.credits 0 x.cap) && Yo x.back 0 x.cap) && (IntKind.i64.wrap (IntKind.i64.wrap (x.credits + x.back) + ((x.queue.length : Nat) : Int)) == x.cap)) && Yo x.sent 0 1000000000) && (x.got == IntKind.i64.wrap (x.sent - ((x.queue.length : Nat) : Int)))) && decide (0 ≤ x.got)) := by
  unfold maxLen at hm
  cases h5 : Yo x.sent 0 1000000000 with
  | false => simp [linkOk, h5]
  | true =>
    have hs := win_iff.1 h5
    rw [wrap_in (z := x.sent - ((x.queue.length : Nat) : Int)) (by omega) (by omega)]
    simp only [linkOk, h5, ha, Bool.and_true]
end
def lkBad (g : Graph) (k : Nat) (l : Link) : Bool := ((!(linkOk l) || (l.cap != g.cap)) || !(l.queue.all (Xg g))) || ((IntKind.i64.wrap (Int.tdiv ((k : Nat) : Int) g.workers) == Int.tmod ((k : Nat) : Int) g.workers) && decide (0 < ((l.queue.length : Nat) : Int)))
def tkBad (g : Graph) (t : Token) : Bool := (!(Yo t.place 0 (IntKind.i64.wrap (g.workers - 1))) || (!t.going && (t.place != 0))) || !(Yo t.sum (-1000000) 1000000)
def nwBad (g : Graph) (t : News) : Bool := !(Yo t.dest 0 (IntKind.i64.wrap (g.workers - 1))) || !(Yo t.epoch 0 3)
def clHead (c : Cluster) : Bool := ((!(Xv c.graph) || (((c.workers.length : Nat) : Int) != c.graph.workers)) || (((c.links.length : Nat) : Int) != IntKind.i64.wrap (c.graph.workers * c.graph.workers))) || (((c.tokens.length : Nat) : Int) != 4)
def clOk (c : Cluster) : Bool := !(clHead c) && c.workers.all (Xe c.graph) && allR c.links.length (fun j => !lkBad c.graph j (List.getD c.links j default)) && c.tokens.all (fun t => !tkBad c.graph t) && c.news.all (fun t => !nwBad c.graph t)
theorem nb {b : Bool} (h : b = false) : (!b) = true := by rw [h]; rfl
section
variable {x : Cluster} {k : Nat}
theorem lk_at (h1 : k < x.links.length) (h : lkBad x.graph k x.links[k] = false) : (fun j => !lkBad x.graph j (List.getD x.links j default)) k = true := by
  show (!lkBad x.graph k (List.getD x.links k default)) = true
  rw [getD_at h1, h]; rfl
theorem cl_g (h : clHead x = false) : 1 ≤ x.graph.workers ∧ x.graph.workers ≤ 4 := by
  simp only [clHead, Bool.or_eq_false_iff, Bool.not_eq_false'] at h
  have h1 := h.1.1.1
  simp only [Xv, headBad, Bool.and_eq_true, Bool.not_eq_true', Bool.or_eq_false_iff, Bool.not_eq_false'] at h1
  exact win_iff.1 h1.1.1.2
theorem cl_w (h : clHead x = false) : ((x.workers.length : Nat) : Int) = x.graph.workers := by
  simp only [clHead, Bool.or_eq_false_iff, bne_eq_false_iff_eq] at h
  exact h.1.1.2
theorem cl_0 (h : clHead x = true) : Value.bool false = .bool (clOk x) := by simp only [clOk, h]; rfl
theorem cl_1 (h1 : k < x.workers.length) (h : Xe x.graph x.workers[k] = false) : Value.bool false = .bool (clOk x) := bf fun hq => by
  simp only [clOk, Bool.and_eq_true] at hq
  have := List.all_eq_true.1 hq.1.1.1.2 _ (List.getElem_mem h1)
  rw [h] at this; cases this
theorem cl_2 (h1 : k < x.links.length) (h : lkBad x.graph k x.links[k] = true) : Value.bool false = .bool (clOk x) := bf fun hq => by
  simp only [clOk, Bool.and_eq_true] at hq
  have := allR_get hq.1.1.2 h1
  rw [getD_at h1, h] at this; cases this
theorem cl_3 (h1 : k < x.tokens.length) (h : tkBad x.graph x.tokens[k] = true) : Value.bool false = .bool (clOk x) := bf fun hq => by
  simp only [clOk, Bool.and_eq_true] at hq
  have := List.all_eq_true.1 hq.1.2 _ (List.getElem_mem h1)
  rw [h] at this; cases this
theorem cl_4 (h1 : k < x.news.length) (h : nwBad x.graph x.news[k] = true) : Value.bool false = .bool (clOk x) := bf fun hq => by
  simp only [clOk, Bool.and_eq_true] at hq
  have := List.all_eq_true.1 hq.2 _ (List.getElem_mem h1)
  rw [h] at this; cases this
theorem cl_5 (h0 : clHead x = false) (h1 : x.workers.all (Xe x.graph) = true) (h2 : allR x.links.length (fun j => !lkBad x.graph j (List.getD x.links j default)) = true) (h3 : x.tokens.all (fun t => !tkBad x.graph t) = true) (h4 : x.news.all (fun t => !nwBad x.graph t) = true) : Value.bool true = .bool (clOk x) :=
  bt (by simp only [clOk, h0, h1, h2, h3, h4]; rfl)
end
section
variable {α : Type} {xs ys : List α} {p : α → Bool} {i j : Nat}
end
def putLt (x y : Cell) : Bool := decide (cellOrd y x < 0)
def putAt (xs : List Cell) (x : Cell) : Nat := xs.findIdx (fun y => !(putLt x y))
def putM (xs : List Cell) (x : Cell) : List Cell := if x ∈ xs then xs else insM xs (putAt xs x) x
section
variable {xs : List Cell} {x : Cell} {k : Nat}
end
theorem putM_len (xs : List Cell) (x : Cell) : (putM xs x).length ≤ xs.length + 1 := by
  unfold putM
  split
  · omega
  · simp [insM]; omega
def betterM (xs : List Cell) (x : Cell) : List Cell × Bool :=
  if ((leastM xs x.op x.epoch x.key).2 && decide ((leastM xs x.op x.epoch x.key).1 ≤ x.val)) = true then (xs, false) else (putM (xs.filter (fun y => !(slot x y))) x, true)
def recallM (kind : Int) (xs : List Cell) (x : Cell) : List Cell × Bool :=
  if (kind == 5) = true ∨ (kind == 8) = true then betterM xs x else if (kind == 6) = true then (putM xs x, !decide (x ∈ xs)) else (xs, true)
section
variable {kind : Int} {xs : List Cell} {x y : Cell}
theorem betterM_yes (h : ((leastM xs x.op x.epoch x.key).2 && decide ((leastM xs x.op x.epoch x.key).1 ≤ x.val)) = true) : betterM xs x = (xs, false) := by rw [betterM, if_pos h]
theorem betterM_no (h : ((leastM xs x.op x.epoch x.key).2 && decide ((leastM xs x.op x.epoch x.key).1 ≤ x.val)) = false) : betterM xs x = (putM (xs.filter (fun y => !(slot x y))) x, true) := by rw [betterM, if_neg (by rw [h]; simp)]
theorem betterM_len : (betterM xs x).1.length ≤ xs.length + 1 := by
  unfold betterM
  split
  · simp
  · exact Nat.le_trans (putM_len _ _) (by have := List.length_filter_le (fun y => !(slot x y)) xs; omega)
end
def changedM (x : Node) (a b : Int) : Int × Int × Bool :=
  if (!(nodeOk x) || !(Yo a 0 99 && Yo b 0 999)) = true then (a, b, false)
  else if (x.kind == 2) = true then (a, (if IntKind.i64.wrap (b + x.a) < 999 then IntKind.i64.wrap (b + x.a) else 999), true)
  else if (x.kind == 4) = true then (Int.tmod (IntKind.i64.wrap (a + x.a)) 100, b, true)
  else if (x.kind == 3) = true then (a, b, Int.tmod a x.a == x.b)
  else (a, b, x.kind != 8)
section
variable {x : Node} {a b : Int}
theorem nof {p : Bool} (h : p = false) : ¬ p = true := by rw [h]; simp
end
def impBad (g : Graph) (x : Cell) : Bool := ((!(Xv g) || !(isNodeM g x.op)) || !(Yo x.epoch 0 3)) || !(Yo x.key 0 99 && Yo x.val 0 999)
def impCh (g : Graph) (x : Cell) : Int × Int × Bool := changedM (List.getD g.nodes (Int.toNat x.op) default) x.key x.val
def impTo (g : Graph) (x : Cell) (k : Nat) : List Cell := ((List.getD g.nodes (Int.toNat x.op) default).outs.take k).map fun n => ⟨n, x.epoch, (impCh g x).1, (impCh g x).2.1⟩
def improveM (g : Graph) (best : List Cell) (x : Cell) : List Cell × List Cell :=
  if impBad g x = true then (best, []) else if (!((betterM best x).2) || !((impCh g x).2.2)) = true then ((betterM best x).1, []) else ((betterM best x).1, impTo g x (List.getD g.nodes (Int.toNat x.op) default).outs.length)
section
variable {g : Graph} {xs : List Cell} {x : Cell} {k : Nat}
theorem imp_of (h : impBad g x = false) : Xv g = true ∧ isNodeM g x.op = true := by
  simp only [impBad, Bool.or_eq_false_iff, Bool.not_eq_false'] at h
  exact h.1.1
theorem imp_0 (h : impBad g x = true) : improveM g xs x = (xs, []) := by rw [improveM, if_pos h]
theorem impTo_len (g : Graph) (x : Cell) (k : Nat) : (impTo g x k).length ≤ k := by simp only [impTo, List.length_map, List.length_take]; omega
theorem improve_len1 : (improveM g xs x).1.length ≤ xs.length + 1 := by
  unfold improveM
  split
  · simp
  · split <;> exact betterM_len
theorem improve_len2 : (improveM g xs x).2.length ≤ 2 := by
  unfold improveM
  split
  · simp
  · rename_i h
    split
    · simp
    · have hq := imp_of (Bool.eq_false_iff.2 h)
      have := outs_two (i := Int.toNat x.op) hq.1 (isNode_of hq.2).2.2
      exact Nat.le_trans (impTo_len _ _ _) this
end
section
variable {g : Graph} {xs : List Cell} {x : Cell} {k : Nat}
theorem better_no (h : (betterM xs x).2 = false) : (betterM xs x).1 = xs := by
  unfold betterM at *
  split at h
  · rename_i hq; rw [if_pos hq]
  · cases h
def icP (g : Graph) (xs : List Cell) (x : Cell) : Bool := ((improveM g [] x).2).all (nwP xs)
def isClosedM (g : Graph) (xs : List Cell) : Bool := Xv g && xs.all (icP g xs)
end
def unstM (x : Worker) : Worker × Record × Bool := if x.staged.length = 0 then (x, ⟨0, ⟨0, 0⟩, 0, 0⟩, false) else (⟨x.queue, x.staged.drop 1, x.inputs, x.cells, x.sums, x.black, x.caps, x.dones⟩, List.getD x.staged 0 default, true)
def takeBad (g : Graph) (x : Worker) : Bool := ((((!(Xv g) || !(Xe g x)) || (decide (0 < ((x.staged.length : Nat) : Int)))) || (decide (0 < ((x.queue.length : Nat) : Int)))) || (((x.inputs.length : Nat) : Int) == 0))
def takeM (g : Graph) (x : Worker) : Worker × Bool := if takeBad g x = true then (x, false) else (⟨x.queue ++ [List.getD x.inputs 0 default], x.staged, x.inputs.drop 1, x.cells, x.sums, x.black, x.caps, x.dones⟩, true)
section
variable {g : Graph} {x : Worker}
theorem take_no (h : takeBad g x = true) : takeM g x = (x, false) := by rw [takeM, if_pos h]
theorem take_lt (h : takeBad g x = false) : 0 < x.inputs.length := by
  have h1 := (Bool.or_eq_false_iff.1 h).2
  have h0 : ((x.inputs.length : Nat) : Int) ≠ 0 := fun e => by rw [e] at h1; cases h1
  omega
theorem take_yes (h : takeBad g x = false) (hl : 0 < x.inputs.length) : takeM g x = (⟨x.queue ++ [x.inputs[0]], x.staged, x.inputs.drop 1, x.cells, x.sums, x.black, x.caps, x.dones⟩, true) := by
  rw [takeM, if_neg (nof h), getD_at hl]
theorem cnt_take : Yd (takeM g x).1 ≤ Yd x := by
  unfold takeM
  split
  · exact Nat.le_refl _
  · rename_i h
    have := take_lt (Bool.eq_false_iff.2 h)
    simp [Yd]; omega
end
def stBad (g : Graph) (r : Record) : Bool := (!(Xv g) || !(Kb r)) || !(isNodeM g r.op)
def stNode (g : Graph) (r : Record) : Node := List.getD g.nodes (Int.toNat r.op) default
def stCh (g : Graph) (r : Record) : Int × Int × Bool := changedM (stNode g r) r.key r.val
def stRec (g : Graph) (cs : List Cell) (r : Record) : List Cell × Bool := recallM (stNode g r).kind cs ⟨r.op, r.stamp.epoch, r.key, r.val⟩
def stTo (g : Graph) (r : Record) (s : Stamp) (k : Nat) : List Record := ((stNode g r).outs.take k).map fun n => ⟨n, s, (stCh g r).1, (stCh g r).2.1⟩
def stStamp (g : Graph) (r : Record) : Stamp × Bool := if ((stNode g r).kind == 7) = true then nextT r.stamp else (r.stamp, true)
def stepM (g : Graph) (cs : List Cell) (r : Record) : List Cell × List Record × Bool :=
  if stBad g r = true then (cs, [], false)
  else if (!((stCh g r).2.2) && ((stNode g r).kind != 8)) = true then (cs, [], true)
  else if (!((stRec g cs r).2)) = true then ((stRec g cs r).1, [], true)
  else ((stRec g cs r).1, if (stStamp g r).2 = true then stTo g r (stStamp g r).1 (stNode g r).outs.length else [], true)
def stOut (g : Graph) (r : Record) (k : Nat) : List Record := if (stStamp g r).2 = true then stTo g r (stStamp g r).1 k else []
section
variable {g : Graph} {cs : List Cell} {r : Record} {x : Node} {k : Nat}
end
section
variable {g : Graph} {cs : List Cell} {r : Record}
end
def workBad (g : Graph) (x : Worker) : Bool := (((!(Xv g) || !(Xe g x)) || (decide (0 < ((x.staged.length : Nat) : Int)))) || (((x.queue.length : Nat) : Int) == 0))
def workR (x : Worker) : Record := List.getD x.queue 0 default
def workM (g : Graph) (x : Worker) : Worker × Bool := if workBad g x = true then (x, false) else
  (⟨x.queue.drop 1, (stepM g x.cells (workR x)).2.1, x.inputs, (stepM g x.cells (workR x)).1, x.sums, x.black, if cappedM g (workR x) = true then x.caps.set (Int.toNat (workR x).stamp.epoch) true else x.caps, x.dones⟩, true)
section
variable {g : Graph} {x : Worker}
end
def brM (n a b : Int) : Int := if (decide (b < a) || decide (n < a)) = true then a else if b < n then b else n
def allM (g : Graph) : Nat → List Cell → List Record → List Cell × List Record × Nat
  | 0, cs, rs => (cs, rs, 0)
  | m + 1, cs, rs => if rs.length = 0 then (cs, rs, 0) else
    ((allM g m (stepM g cs (List.getD rs 0 default)).1 (rs.drop 1 ++ (stepM g cs (List.getD rs 0 default)).2.1)).1,
     (allM g m (stepM g cs (List.getD rs 0 default)).1 (rs.drop 1 ++ (stepM g cs (List.getD rs 0 default)).2.1)).2.1,
     (allM g m (stepM g cs (List.getD rs 0 default)).1 (rs.drop 1 ++ (stepM g cs (List.getD rs 0 default)).2.1)).2.2 + 1)
def stepAllM (g : Graph) (cs : List Cell) (rs : List Record) (most : Int) : List Cell × List Record × Nat := allM g (Int.toNat (brM most 0 100000)) cs rs
section
variable {g : Graph} {cs cs0 : List Cell} {rs rs0 : List Record} {r : Record} {k m : Nat}
end
def slotM (op e k : Int) (y : Cell) : Bool := slot y ⟨op, e, k, 0⟩
def psiF (b : List Cell) (c : Nat) : Nat := if (leastM b ((c / 400 : Nat) : Int) ((c / 100 % 4 : Nat) : Int) ((c % 100 : Nat) : Int)).2 = true then Int.toNat (leastM b ((c / 400 : Nat) : Int) ((c / 100 % 4 : Nat) : Int) ((c % 100 : Nat) : Int)).1 else 1000
def psiS (f : Nat → Nat) : Nat → Nat
  | 0 => 0
  | n + 1 => psiS f n + f n
def psi (b : List Cell) : Nat := psiS (psiF b) 3200
theorem psiS_eq {f f' : Nat → Nat} : ∀ n, (∀ c, c < n → f' c = f c) → psiS f' n = psiS f n
  | 0, _ => rfl
  | n + 1, h => by rw [psiS, psiS, psiS_eq n (fun c hc => h c (by omega)), h n (by omega)]
theorem psiS_lt {f f' : Nat → Nat} {c0 : Nat} (h0 : f' c0 < f c0) (h : ∀ c, c ≠ c0 → f' c = f c) : ∀ n, c0 < n → psiS f' n < psiS f n
  | 0, hn => by omega
  | n + 1, hn => by
    rw [psiS, psiS]
    by_cases e : c0 = n
    · subst e
      rw [psiS_eq c0 (fun c hc => h c (by omega))]; omega
    · have := psiS_lt h0 h n (by omega)
      rw [h n (by omega)]; omega
section
variable {xs : List Cell} {x : Cell} {op e k n : Int} {s : Bool}
theorem leastGo_filter : ∀ (xs : List Cell) (n : Int) (s : Bool), leastGo op e k xs n s = leastGo op e k (xs.filter (slotM op e k)) n s
  | [], _, _ => rfl
  | x :: xs, n, s => by
    rw [leastGo]
    by_cases h : slotM op e k x = true
    · rw [List.filter_cons_of_pos h, leastGo, ← leastGo_filter xs, ← leastGo_filter xs]
    · rw [List.filter_cons_of_neg h, ← leastGo_filter xs]
      have h' : slot x ⟨op, e, k, 0⟩ = false := Bool.eq_false_iff.2 h
      rw [h']; simp
theorem leastM_filter (xs : List Cell) : leastM xs op e k = leastGo op e k (xs.filter (slotM op e k)) 0 false := leastGo_filter xs 0 false
theorem slot_iff {x y : Cell} : slot x y = true ↔ x.op = y.op ∧ x.epoch = y.epoch ∧ x.key = y.key := by
  simp [slot, and_assoc]
theorem better_own (h : (betterM xs x).2 = true) : leastM (betterM xs x).1 x.op x.epoch x.key = (x.val, true) := by
  have hc : ((leastM xs x.op x.epoch x.key).2 && decide ((leastM xs x.op x.epoch x.key).1 ≤ x.val)) = false := by
    cases hq : ((leastM xs x.op x.epoch x.key).2 && decide ((leastM xs x.op x.epoch x.key).1 ≤ x.val))
    · rfl
    · rw [betterM_yes hq] at h; cases h
  rw [betterM_no hc]
  have hx : slot x x = true := slot_iff.2 ⟨rfl, rfl, rfl⟩
  have hn : x ∉ xs.filter (fun y => !(slot x y)) := fun hm => by
    have := (List.mem_filter.1 hm).2
    rw [hx] at this; cases this
  have hz : (xs.filter (fun y => !(slot x y))).filter (slotM x.op x.epoch x.key) = [] := by
    rw [List.filter_filter, List.filter_eq_nil_iff]
    intro y _ hy
    simp only [Bool.and_eq_true, Bool.not_eq_true'] at hy
    have h1 := slot_iff.1 (show slot y ⟨x.op, x.epoch, x.key, 0⟩ = true from hy.1)
    rw [show slot x y = true from slot_iff.2 ⟨h1.1.symm, h1.2.1.symm, h1.2.2.symm⟩] at hy
    cases hy.2
  have hs : slotM x.op x.epoch x.key x = true := slot_iff.2 ⟨rfl, rfl, rfl⟩
  rw [leastM_filter, putM, if_neg hn]
  generalize hl : xs.filter (fun y => !(slot x y)) = l at hz
  have ha : (l.take (putAt l x)).filter (slotM x.op x.epoch x.key) = [] := by
    rw [List.filter_eq_nil_iff] at hz ⊢; exact fun y hy => hz y (List.mem_of_mem_take hy)
  have hb : (l.drop (putAt l x)).filter (slotM x.op x.epoch x.key) = [] := by
    rw [List.filter_eq_nil_iff] at hz ⊢; exact fun y hy => hz y (List.mem_of_mem_drop hy)
  simp only [insM, List.filter_append, List.filter_cons, ha, hb, hs, if_true, List.nil_append]
  have hs' : slot x ⟨x.op, x.epoch, x.key, 0⟩ = true := hs
  simp [leastGo, hs']
theorem better_other (h : ¬ (op = x.op ∧ e = x.epoch ∧ k = x.key)) : leastM (betterM xs x).1 op e k = leastM xs op e k := by
  unfold betterM
  split
  · rfl
  · have hf : (xs.filter (fun y => !(slot x y))).filter (slotM op e k) = xs.filter (slotM op e k) := by
      rw [List.filter_filter]
      refine List.filter_congr fun y _ => ?_
      cases hy : slotM op e k y with
      | false => simp
      | true =>
        have h1 := slot_iff.1 (show slot y ⟨op, e, k, 0⟩ = true from hy)
        have h2 : slot x y = false := Bool.eq_false_iff.2 fun hq => h (by
          have h3 := slot_iff.1 hq
          exact ⟨(h3.1.trans h1.1).symm, (h3.2.1.trans h1.2.1).symm, (h3.2.2.trans h1.2.2).symm⟩)
        rw [h2]; rfl
    have hs : slotM op e k x = false := Bool.eq_false_iff.2 fun hq => by
      have h1 := slot_iff.1 (show slot x ⟨op, e, k, 0⟩ = true from hq)
      exact h ⟨h1.1.symm, h1.2.1.symm, h1.2.2.symm⟩
    rw [leastM_filter, leastM_filter xs]
    congr 1
    unfold putM
    split
    · exact hf
    · rw [← hf]
      generalize xs.filter (fun y => !(slot x y)) = l
      simp only [insM, List.filter_append, List.filter_cons, hs]
      simp only [Bool.false_eq_true, if_false]
      rw [← List.filter_append, List.take_append_drop]
theorem psi_better (h : (betterM xs x).2 = true) (ho : 0 ≤ x.op ∧ x.op < 8) (he : 0 ≤ x.epoch ∧ x.epoch ≤ 3) (hk : 0 ≤ x.key ∧ x.key ≤ 99) (hv : 0 ≤ x.val ∧ x.val ≤ 999) : psi (betterM xs x).1 < psi xs := by
  have hc : ((leastM xs x.op x.epoch x.key).2 && decide ((leastM xs x.op x.epoch x.key).1 ≤ x.val)) = false := by
    cases hq : ((leastM xs x.op x.epoch x.key).2 && decide ((leastM xs x.op x.epoch x.key).1 ≤ x.val))
    · rfl
    · rw [betterM_yes hq] at h; cases h
  refine psiS_lt (c0 := Int.toNat (x.op * 400 + x.epoch * 100 + x.key)) ?_ (fun c hn => ?_) 3200 (by omega)
  · have e1 : ((Int.toNat (x.op * 400 + x.epoch * 100 + x.key) / 400 : Nat) : Int) = x.op := by omega
    have e2 : ((Int.toNat (x.op * 400 + x.epoch * 100 + x.key) / 100 % 4 : Nat) : Int) = x.epoch := by omega
    have e3 : ((Int.toNat (x.op * 400 + x.epoch * 100 + x.key) % 100 : Nat) : Int) = x.key := by omega
    unfold psiF
    rw [e1, e2, e3, better_own h, if_pos rfl]
    split
    · rename_i hf
      rw [hf, Bool.true_and, decide_eq_false_iff_not] at hc
      simp only []; omega
    · simp only []; omega
  · have hne : ¬ (((c / 400 : Nat) : Int) = x.op ∧ ((c / 100 % 4 : Nat) : Int) = x.epoch ∧ ((c % 100 : Nat) : Int) = x.key) := fun hq => hn (by omega)
    unfold psiF
    rw [better_other hne]
end
theorem fix_step (g : Graph) (b : List Cell) (x : Cell) : (psi (improveM g b x).1 + 1 ≤ psi b ∧ (improveM g b x).1.length ≤ b.length + 1 ∧ (improveM g b x).2.length ≤ 2) ∨ (improveM g b x = (b, [])) := by
  have h1 := @improve_len1 g b x
  have h2 := @improve_len2 g b x
  by_cases hb : impBad g x = true
  · exact .inr (imp_0 hb)
  · have hq := imp_of (Bool.eq_false_iff.2 hb)
    have hop := isNode_of hq.2
    have hl := gok_len hq.1
    have hb' := Bool.eq_false_iff.2 hb
    simp only [impBad, Yo, Bool.or_eq_false_iff, Bool.not_eq_false', Bool.and_eq_true, decide_eq_true_eq] at hb'
    by_cases hc : (betterM b x).2 = true
    · refine .inl ⟨?_, h1, h2⟩
      have := psi_better hc (by omega) (by omega) (by omega) (by omega)
      rw [improveM, if_neg hb]
      split <;> exact this
    · have hc' := Bool.eq_false_iff.2 hc
      exact .inr (by rw [improveM, if_neg hb, if_pos (by rw [hc']; rfl), better_no hc'])
def fixGo (g : Graph) (b l : List Cell) : List Cell :=
  match l with
  | [] => b
  | x :: l => fixGo g (improveM g b x).1 (l ++ (improveM g b x).2)
termination_by 3 * psi b + l.length
decreasing_by
  rcases fix_step g b x with h | h
  · simp only [List.length_append, List.length_cons]; omega
  · rw [h]; simp only [List.append_nil, List.length_cons]; omega
def fixIn (e : Int) (rs : List Record) : List Cell := (rs.filter (fun r => ofE e r && Kb r)).map fun r => ⟨0, e, r.key, r.val⟩
def fixM (g : Graph) (e : Int) (rs : List Record) : List Cell := fixGo g [] (fixIn e rs)
def fixT (e : Int) (p : Record → Bool) (rs : List Record) (k : Nat) : List Cell := ((rs.take k).filter p).map fun r => ⟨0, e, r.key, r.val⟩
section
variable {g : Graph} {b l : List Cell} {x : Cell} {e : Int} {rs : List Record} {p : Record → Bool} {k : Nat}
end
theorem numN1_mark (j k : Nat) (x : Node) : X6 j (markN1 k x) = X6 j x := by simp [X6, markN1, Qj]
theorem markN1_idem (k : Nat) (x : Node) : markN1 k (markN1 k x) = markN1 k x := by simp [markN1, Qj]
theorem numL1_mark (j k : Nat) (x : Link) : numL1 j (markL1 k x) = numL1 j x := by simp [numL1, markL1, Qj]
theorem markL1_idem (k : Nat) (x : Link) : markL1 k (markL1 k x) = markL1 k x := by simp [markL1, Qj]
theorem numCl_mark (j k : Nat) (x : Cluster) : numCl j (markCl k x) = numCl j x := by simp [numCl, markCl, Qj, numA_mark numN1_mark, numA_mark numW_mark, numA_mark numL1_mark]
theorem markCl_idem (k : Nat) (x : Cluster) : markCl k x = markCl k (markCl k x) := by
  simp [markCl, Qj, numA_mark numN1_mark, numA_mark numW_mark, numA_mark numL1_mark, markA_idem numN1_mark markN1_idem, markA_idem numW_mark (fun k x => (markW_idem k x).symm), markA_idem numL1_mark markL1_idem]
theorem cntCl_mark (k : Nat) (x : Cluster) : Yf (markCl k x) = Yf x := by
  simp [Yf, Y6, markCl, Qj, cntA_mark (cnt := Xr) (n := X6) (m := markN1) (fun k x => by simp [Xr, markN1, Qj]), cntA_mark (cnt := Yd) (n := numW) (m := markW) cntW_mark, cntA_mark (cnt := Y9) (n := numL1) (m := markL1) (fun k x => by simp [Y9, markL1, Qj])]
def inpTo (x : Cluster) (e : Int) (k : Nat) : List Record := (x.workers.take k).flatMap fun w => w.inputs.filter (ofE e)
def ownerOf (k w : Int) : Int := if w < 1 then 0 else if Int.tmod k w < 0 then Int.tmod k w + w else Int.tmod k w
def linkNew (c : Int) : Link := ⟨brM c 1 4, [], brM c 1 4, 0, 0, 0⟩
def sendM (l : Link) (r : Record) : Link × Bool :=
  if linkOk l = true ∧ Kb r = true ∧ l.credits ≠ 0 ∧ l.sent ≠ 1000000000 then (⟨l.cap, l.queue ++ [r], IntKind.i64.wrap (l.credits - 1), l.back, IntKind.i64.wrap (l.sent + 1), l.got⟩, true) else (l, false)
def tookM (l : Link) : Link × Record × Bool :=
  if linkOk l = true ∧ 0 < l.queue.length then (⟨l.cap, l.queue.drop 1, l.credits, IntKind.i64.wrap (l.back + 1), l.sent, IntKind.i64.wrap (l.got + 1)⟩, List.getD l.queue 0 default, true) else (l, ⟨0, ⟨0, 0⟩, 0, 0⟩, false)
def creditM (l : Link) : Link × Bool :=
  if linkOk l = true ∧ l.back ≠ 0 then (⟨l.cap, l.queue, IntKind.i64.wrap (l.credits + 1), IntKind.i64.wrap (l.back - 1), l.sent, l.got⟩, true) else (l, false)
section
variable {l : Link} {r : Record}
end
def hasW (x : Cluster) (w : Int) : Bool := clOk x && Yo w 0 (IntKind.i64.wrap (((x.workers.length : Nat) : Int) - 1))
def linkOfM (x : Cluster) (a b : Int) : Int := if ((!(clOk x)) || (a == b)) = true then -1 else linkM x.graph a b
def wAt (x : Cluster) (w : Int) : Worker := List.getD x.workers (Int.toNat w) default
def lAt (x : Cluster) (k : Int) : Link := List.getD x.links (Int.toNat k) default
def setW (x : Cluster) (w : Int) (y : Worker) : Cluster := { x with workers := x.workers.set (Int.toNat w) y }
def setLk (x : Cluster) (k : Int) (y : Link) : Cluster := { x with links := x.links.set (Int.toNat k) y }
def Qq (x : Cluster) (w : Int) : Cluster × Bool := if hasW x w = true then (setW x w (takeM x.graph (wAt x w)).1, (takeM x.graph (wAt x w)).2) else (x, false)
def pickWork (x : Cluster) (w : Int) : Cluster × Bool := if hasW x w = true then (setW x w (workM x.graph (wAt x w)).1, (workM x.graph (wAt x w)).2) else (x, false)
def pickCredit (x : Cluster) (a b : Int) : Cluster × Bool := if linkOfM x a b < 0 then (x, false) else (setLk x (linkOfM x a b) (creditM (lAt x (linkOfM x a b))).1, (creditM (lAt x (linkOfM x a b))).2)
def pickTake (x : Cluster) (a b : Int) : Cluster × Bool := if linkOfM x a b < 0 then (x, false) else
  if (tookM (lAt x (linkOfM x a b))).2.2 = true then (setW (setLk x (linkOfM x a b) (tookM (lAt x (linkOfM x a b))).1) b (recvW (wAt x b) (tookM (lAt x (linkOfM x a b))).2.1), true) else (x, false)
def mvR (x : Cluster) (w : Int) : Record := (unstM (wAt x w)).2.1
def mvO (x : Cluster) (w : Int) : Int := ownerOf (mvR x w).key x.graph.workers
def mvS (x : Cluster) (w : Int) : Link × Bool := sendM (lAt x (linkM x.graph w (mvO x w))) (mvR x w)
def pickMove (x : Cluster) (w : Int) : Cluster × Bool := if hasW x w = true ∧ 0 < (wAt x w).staged.length then
  if mvO x w = w then (setW x w (keptW (unstM (wAt x w)).1 (mvR x w)), true) else
  if (mvS x w).2 = true then (setW (setLk x (linkM x.graph w (mvO x w)) (mvS x w).1) w (sentW (unstM (wAt x w)).1 (mvR x w).stamp.epoch), true) else (x, false) else (x, false)
section
variable {x : Cluster} {a b w : Int}
theorem clOk_head (h : clOk x = true) : clHead x = false := by
  simp only [clOk, Bool.and_eq_true, Bool.not_eq_true'] at h
  exact h.1.1.1.1
theorem hasW_in (hm : x.workers.length ≤ maxLen) (h : hasW x w = true) : clOk x = true ∧ 0 ≤ w ∧ w < ((x.workers.length : Nat) : Int) ∧ Int.toNat w < x.workers.length := by
  unfold hasW at h
  rw [isN_w hm] at h
  simp only [Bool.and_eq_true, win_iff] at h
  exact ⟨h.1, by omega, by omega, by omega⟩
theorem wAt_at (h : Int.toNat w < x.workers.length) : x.workers[Int.toNat w] = wAt x w := (getD_at h).symm
theorem cntL_set {α : Type} {cnt : α → Nat} : ∀ {xs : List α} {i : Nat} (h : i < xs.length) (y : α), Xu cnt (xs.set i y) + cnt xs[i] = Xu cnt xs + cnt y
  | [], _, h, _ => by simp at h
  | x :: xs, 0, _, y => by simp [Xu]; omega
  | x :: xs, i + 1, h, y => by
    have := cntL_set (cnt := cnt) (xs := xs) (i := i) (by simpa using h) y
    simp only [Xu, List.set_cons_succ, List.length_cons, List.map_cons, List.sum_cons, List.getElem_cons_succ] at *; omega
theorem cntL_get {α : Type} {cnt : α → Nat} {xs : List α} {i : Nat} (h : i < xs.length) : cnt xs[i] + 1 ≤ Xu cnt xs := by
  have := sum_le (f := cnt) h
  unfold Xu; omega
end
def runBad (x : Cluster) (ok : Bool) (a b : Int) : Bool := ((!ok) || (decide (linkM x.graph a b < 0))) || (a == b)
def runCredit (x : Cluster) (ok : Bool) (a b : Int) : Cluster × Bool := if runBad x ok a b = true then (x, false) else (setLk x (linkM x.graph a b) (creditM (lAt x (linkM x.graph a b))).1, (creditM (lAt x (linkM x.graph a b))).2)
section
variable {x : Cluster} {ok : Bool} {a b : Int}
end
theorem cnt_setW {x : Cluster} {k : Int} {y : Worker} {c : Nat} (h : Yd y ≤ Yd (wAt x k) + c) : Yf (setW x k y) ≤ Yf x + c := by
  unfold setW wAt Yf at *
  by_cases hk : Int.toNat k < x.workers.length
  · have := cntL_set (cnt := Yd) hk y
    rw [getD_at hk] at h
    simp only at *; omega
  · rw [List.set_eq_of_length_le (by omega)]; simp only; omega
theorem cnt_pickInput (x : Cluster) (w : Int) : Yf (Qq x w).1 ≤ Yf x := by
  unfold Qq; split
  · exact cnt_setW (c := 0) cnt_take
  · exact Nat.le_refl _
def runHas (x : Cluster) (ok : Bool) (w : Int) : Bool := ok && Yo w 0 (IntKind.i64.wrap (((x.workers.length : Nat) : Int) - 1))
def inBad (y : Worker) : Bool := ((decide (((y.staged.length : Nat) : Int) > 0)) || (decide (((y.queue.length : Nat) : Int) > 0))) || (((y.inputs.length : Nat) : Int) == 0)
def runInput (x : Cluster) (ok : Bool) (w : Int) : Cluster × Bool := if runHas x ok w = true ∧ inBad (wAt x w) = false then
  (setW x w ⟨[List.getD (wAt x w).inputs 0 default], (wAt x w).staged, (wAt x w).inputs.drop 1, (wAt x w).cells, (wAt x w).sums, (wAt x w).black, (wAt x w).caps, (wAt x w).dones⟩, true) else (x, false)
section
variable {x : Cluster} {ok : Bool} {w : Int}
theorem run_w (hcl : ok = true → clOk x = true) (hm : x.workers.length ≤ maxLen) (h : (!(ok && Yo w 0 (IntKind.i64.wrap (((x.workers.length : Nat) : Int) - 1)))) = false) : clOk x = true ∧ 0 ≤ w ∧ w < ((x.workers.length : Nat) : Int) ∧ Int.toNat w < x.workers.length := by
  simp only [Bool.not_eq_false', Bool.and_eq_true] at h
  exact hasW_in hm (by unfold hasW; rw [hcl h.1, h.2]; rfl)
theorem input_no1 (h : (!(ok && Yo w 0 (IntKind.i64.wrap (((x.workers.length : Nat) : Int) - 1)))) = true) : runInput x ok w = (x, false) := by
  unfold runInput; rw [if_neg]; rintro ⟨a, _⟩; unfold runHas at a; rw [a] at h; cases h
variable (hw : clOk x = true ∧ 0 ≤ w ∧ w < ((x.workers.length : Nat) : Int) ∧ Int.toNat w < x.workers.length)
theorem input_no2 (h : inBad (x.workers[Int.toNat w]'hw.2.2.2) = true) : runInput x ok w = (x, false) := by
  unfold runInput; rw [if_neg]; rintro ⟨_, a⟩; rw [← wAt_at hw.2.2.2, h] at a; cases a
theorem run_in0 {y : Worker} (h : inBad y = false) : 0 < y.inputs.length := by
  unfold inBad at h
  simp only [Bool.or_eq_false_iff, beq_eq_false_iff_ne] at h; omega
theorem input_yes (h1 : runHas x ok w = true) (h : inBad (x.workers[Int.toNat w]'hw.2.2.2) = false) (h0 : 0 < (x.workers[Int.toNat w]'hw.2.2.2).inputs.length) : runInput x ok w =
    (⟨x.graph, x.workers.set (Int.toNat w) ⟨[(x.workers[Int.toNat w]'hw.2.2.2).inputs[0]], (x.workers[Int.toNat w]'hw.2.2.2).staged, (x.workers[Int.toNat w]'hw.2.2.2).inputs.drop 1, (x.workers[Int.toNat w]'hw.2.2.2).cells, (x.workers[Int.toNat w]'hw.2.2.2).sums, (x.workers[Int.toNat w]'hw.2.2.2).black, (x.workers[Int.toNat w]'hw.2.2.2).caps, (x.workers[Int.toNat w]'hw.2.2.2).dones⟩, x.links, x.tokens, x.news⟩, true) := by
  have e := wAt_at hw.2.2.2
  unfold runInput
  rw [if_pos ⟨h1, by rw [← e]; exact h⟩, ← e, getD_at h0]; rfl
theorem wk_le (y : Worker) : y.queue.length ≤ Yd y ∧ y.staged.length ≤ Yd y ∧ y.inputs.length ≤ Yd y := by unfold Yd; omega
theorem in_bad {g : Graph} {y : Worker} (h1 : Xv g = true) (h2 : Xe g y = true) : takeBad g y = inBad y := by
  unfold takeBad inBad
  rw [h1, h2, Bool.eq_iff_iff]
  simp only [Bool.or_eq_true, decide_eq_true_eq, beq_iff_eq, Bool.not_eq_true']
  constructor <;> intro h <;> simp_all <;> omega
end
theorem clOk_in {x : Cluster} (h : clOk x = true) : Xv x.graph = true ∧ ∀ y ∈ x.workers, Xe x.graph y = true := by
  have h1 := clOk_head h
  simp only [clHead, Bool.or_eq_false_iff, Bool.not_eq_false'] at h1
  simp only [clOk, Bool.and_eq_true] at h
  exact ⟨h1.1.1.1, fun y hy => List.all_eq_true.1 h.1.1.1.2 y hy⟩
theorem pick_input {x : Cluster} {w : Int} (hm : x.workers.length ≤ maxLen) : runInput x (clOk x) w = Qq x w := by
  unfold runInput Qq
  by_cases h : hasW x w = true
  · have hw := hasW_in hm h
    have hc := clOk_in hw.1
    have hwk : Xe x.graph (wAt x w) = true := by rw [← wAt_at hw.2.2.2]; exact hc.2 _ (List.getElem_mem _)
    have hb := in_bad (y := wAt x w) hc.1 hwk
    have hr : runHas x (clOk x) w = true := h
    rw [if_pos h]
    cases hq : inBad (wAt x w) with
    | true =>
      rw [if_neg (by simp), takeM, if_pos (by rw [hb, hq])]
      have : setW x w (wAt x w) = x := by
        unfold setW; rw [← wAt_at hw.2.2.2, List.set_getElem_self]
      rw [this]
    | false =>
      have hq0 : (wAt x w).queue = [] := by
        unfold inBad at hq
        simp only [Bool.or_eq_false_iff, decide_eq_false_iff_not] at hq
        exact List.eq_nil_of_length_eq_zero (by omega)
      rw [if_pos ⟨hr, rfl⟩, takeM, if_neg (by rw [hb, hq]; simp), hq0]; rfl
  · rw [if_neg h, if_neg (fun hq => h hq.1)]
def sumY (y : Worker) (e n : Int) : Worker := ⟨y.queue, y.staged, y.inputs, y.cells, y.sums.set (Int.toNat e) (IntKind.i64.wrap (List.getD y.sums (Int.toNat e) default + n)), y.black, y.caps, y.dones⟩
def sumOk (y : Worker) (e n : Int) : Bool := Yo (IntKind.i64.wrap (List.getD y.sums (Int.toNat e) default + n)) (-1000000) 1000000
section
variable {x : Cluster} {p e n : Int}
end
end Go.Proofs.YtbnoffhbponglaaGreat
