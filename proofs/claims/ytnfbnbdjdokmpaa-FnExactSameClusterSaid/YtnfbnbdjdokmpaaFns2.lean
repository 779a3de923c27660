/- What the functions that the laws call come to: a contract each; no condition. -/
import Derived.Test.YtnfbnbdjdokmpaaFns
namespace Go.Proofs.Ytnfbnbdjdokmpaa
open Go Go.Proofs.Ytnfbnbdjdokmpaa.X Go.Proofs
set_option maxHeartbeats 4000000 in
set_option maxRecDepth 20000 in
theorem s_SameWorker (cx : List Value) (x : Worker) (cy : List Value) (y : Worker) (w : World) (hx : Dat.R w 0 w.heap.size cx x) (hy : Dat.R w 0 w.heap.size cy y) : Ct Try.prog 33 [.agg cx.toArray, .agg cy.toArray] w (fun v _ => v = .bool (decide (x = y))) := by
  refine ct_of Try.func33 rfl Try.ntmps33 rfl ?_
  obtain ⟨o1, o2, o3, o4, o5, o6, o7, o8, rfl, hd1, hd2, hd3, hd4, hd5, hd6, hd7, hd8⟩ := Worker.op hx
  obtain ⟨o9, o10, o11, o12, o13, o14, o15, o16, rfl, hd9, hd10, hd11, hd12, hd13, hd14, hd15, hd16⟩ := Worker.op hy
  refine S_sub [(0, .agg [o1, o2, o3, o4, o5, o6, o7, o8].toArray), (1, .agg [o9, o10, o11, o12, o13, o14, o15, o16].toArray)] ⟨rfl, rfl, trivial⟩ ?_
  have E : Ext w w := Ext.refl w
  refine S_seq ?_
  refine S_reg [false, false, true] rfl rfl ?_
  refine J_box rfl rfl (fun b1 w1 e1 s1 h1 => ?_)
  have g_b1 : w.heap.size ≤ b1 := by have := E.size; omega
  have y_b1 := h1.lt
  replace E := E.trans e1
  have z1 := e1.size
  refine J_box rfl rfl (fun b2 w2 e2 s2 h2 => ?_)
  have g_b2 : w.heap.size ≤ b2 := by have := E.size; omega
  have y_b2 := h2.lt
  replace E := E.trans e2; replace h1 := h1.ext e2
  have z2 := e2.size
  refine J_st (R_assign rfl) rfl (J_done ?_)
  refine S_seq ?_
  refine S_seq ?_
  refine S_reg [true, true, true, true, false, true, true, true, true, true, true, false, true, true, true, true, true, true, true, false, true, true, true, true, true, true, true, false, true, true, true, true, true, true, true, false, true, true, true, true, true, true, true, false, true, true, true, true, true, true, true, false, true, true, true, true, true, true, true, true, true, true, true] rfl rfl ?_
  refine J_st (R_fieldAddr0 fl72_0 rfl) rfl (J_st (R_load sc66 rfl (h1.one 0 rfl)) rfl (J_st (R_fieldAddr0 fl72_0 rfl) rfl (J_st (R_load sc66 rfl (h2.one 0 rfl)) rfl ?_)))
  refine J_call Try.call56 rfl (s_l05Same o1 x.queue o9 y.queue _ (hd1.rd.ext E) (hd9.rd.ext E)) rfl (fun _ w3 e3 hv => ?_)
  subst hv
  replace E := E.trans e3; replace h1 := h1.ext e3; replace h2 := h2.ext e3
  have z3 := e3.size
  refine J_st (R_not rfl) rfl (J_st (R_move rfl) rfl ?_)
  refine J_cut 56 [(0, .agg [o1, o2, o3, o4, o5, o6, o7, o8].toArray), (1, .agg [o9, o10, o11, o12, o13, o14, o15, o16].toArray), (2, .pointer (some ⟨b1, 0, none⟩)), (3, .pointer (some ⟨b2, 0, none⟩)), (4, .bool false), (68, .bool ((((((((!(decide (x.queue = y.queue))) || (!(decide (x.staged = y.staged)))) || (!(decide (x.inputs = y.inputs)))) || (!(decide (x.cells = y.cells)))) || (!(decide (x.sums = y.sums)))) || (!(decide (x.black = y.black)))) || (!(decide (x.caps = y.caps)))) || (((x.dones.length : Nat) : Int) != ((y.dones.length : Nat) : Int))))] (fun w' => Ext w w' ∧ w3.heap.size ≤ w'.heap.size ∧ Blk w' b1 ([o1, o2, o3, o4, o5, o6, o7, o8]) ∧ Blk w' b2 ([o9, o10, o11, o12, o13, o14, o15, o16])) ?_ ?_
  · refine J_if (gd := 12) rfl rfl (fun hg1 => ?_) (fun hg1 => ?_)
    · refine J_gdno rfl rfl rfl rfl (J_gdno rfl rfl rfl rfl (J_gdno rfl rfl rfl rfl (J_gdno rfl rfl rfl rfl ?_)))
      refine J_ungno rfl rfl rfl rfl ?_
      refine J_gdno rfl rfl rfl rfl (J_st (R_pickT rfl rfl) rfl (J_st (R_move rfl) rfl (J_gdno rfl rfl rfl rfl (J_gdno rfl rfl rfl rfl (J_gdno rfl rfl rfl rfl (J_gdno rfl rfl rfl rfl ?_))))))
      refine J_ungno rfl rfl rfl rfl ?_
      refine J_gdno rfl rfl rfl rfl (J_st (R_pickT rfl rfl) rfl (J_st (R_move rfl) rfl (J_gdno rfl rfl rfl rfl (J_gdno rfl rfl rfl rfl (J_gdno rfl rfl rfl rfl (J_gdno rfl rfl rfl rfl ?_))))))
      refine J_ungno rfl rfl rfl rfl ?_
      refine J_gdno rfl rfl rfl rfl (J_st (R_pickT rfl rfl) rfl (J_st (R_move rfl) rfl (J_gdno rfl rfl rfl rfl (J_gdno rfl rfl rfl rfl (J_gdno rfl rfl rfl rfl (J_gdno rfl rfl rfl rfl ?_))))))
      refine J_ungno rfl rfl rfl rfl ?_
      refine J_gdno rfl rfl rfl rfl (J_st (R_pickT rfl rfl) rfl (J_st (R_move rfl) rfl (J_gdno rfl rfl rfl rfl (J_gdno rfl rfl rfl rfl (J_gdno rfl rfl rfl rfl (J_gdno rfl rfl rfl rfl ?_))))))
      refine J_ungno rfl rfl rfl rfl ?_
      refine J_gdno rfl rfl rfl rfl (J_st (R_pickT rfl rfl) rfl (J_st (R_move rfl) rfl (J_gdno rfl rfl rfl rfl (J_gdno rfl rfl rfl rfl (J_gdno rfl rfl rfl rfl (J_gdno rfl rfl rfl rfl ?_))))))
      refine J_ungno rfl rfl rfl rfl ?_
      refine J_gdno rfl rfl rfl rfl (J_st (R_pickT rfl rfl) rfl (J_st (R_move rfl) rfl (J_gdno rfl rfl rfl rfl (J_gdno rfl rfl rfl rfl (J_gdno rfl rfl rfl rfl (J_gdno rfl rfl rfl rfl (J_gdno rfl rfl rfl rfl (J_gdno rfl rfl rfl rfl (J_gdno rfl rfl rfl rfl (J_st (R_pickT rfl rfl) rfl (J_cutEnd ⟨rfl, rfl, rfl, rfl, rfl, congrArg (fun b => some (Value.bool b)) (show true = ((((((((!(decide (x.queue = y.queue))) || (!(decide (x.staged = y.staged)))) || (!(decide (x.inputs = y.inputs)))) || (!(decide (x.cells = y.cells)))) || (!(decide (x.sums = y.sums)))) || (!(decide (x.black = y.black)))) || (!(decide (x.caps = y.caps)))) || (((x.dones.length : Nat) : Int) != ((y.dones.length : Nat) : Int))) by first | (rw [hg1] <;> rfl) | (simp [hg1]; done) | (simp only [nat_nlt] <;> simp)), trivial⟩ ⟨E, (by omega), h1, h2⟩)))))))))))
    · refine J_gd rfl rfl (R_fieldAddr0 fl72_1 rfl) rfl (J_gd rfl rfl (R_load sc66 rfl (h1.one 1 rfl)) rfl (J_gd rfl rfl (R_fieldAddr0 fl72_1 rfl) rfl (J_gd rfl rfl (R_load sc66 rfl (h2.one 1 rfl)) rfl ?_)))
      refine J_ung rfl rfl ?_
      refine J_call Try.call56 rfl (s_l05Same o2 x.staged o10 y.staged _ (hd2.rd.ext E) (hd10.rd.ext E)) rfl (fun _ w5 e4 hv => ?_)
      subst hv
      replace E := E.trans e4; replace h1 := h1.ext e4; replace h2 := h2.ext e4
      have z4 := e4.size
      refine J_gd rfl rfl (R_not rfl) rfl (J_st (R_pickF rfl rfl) rfl (J_st (R_move rfl) rfl ?_))
      refine J_if (gd := 20) rfl rfl (fun hg2 => ?_) (fun hg2 => ?_)
      · refine J_gdno rfl rfl rfl rfl (J_gdno rfl rfl rfl rfl (J_gdno rfl rfl rfl rfl (J_gdno rfl rfl rfl rfl ?_)))
        refine J_ungno rfl rfl rfl rfl ?_
        refine J_gdno rfl rfl rfl rfl (J_st (R_pickT rfl rfl) rfl (J_st (R_move rfl) rfl (J_gdno rfl rfl rfl rfl (J_gdno rfl rfl rfl rfl (J_gdno rfl rfl rfl rfl (J_gdno rfl rfl rfl rfl ?_))))))
        refine J_ungno rfl rfl rfl rfl ?_
        refine J_gdno rfl rfl rfl rfl (J_st (R_pickT rfl rfl) rfl (J_st (R_move rfl) rfl (J_gdno rfl rfl rfl rfl (J_gdno rfl rfl rfl rfl (J_gdno rfl rfl rfl rfl (J_gdno rfl rfl rfl rfl ?_))))))
        refine J_ungno rfl rfl rfl rfl ?_
        refine J_gdno rfl rfl rfl rfl (J_st (R_pickT rfl rfl) rfl (J_st (R_move rfl) rfl (J_gdno rfl rfl rfl rfl (J_gdno rfl rfl rfl rfl (J_gdno rfl rfl rfl rfl (J_gdno rfl rfl rfl rfl ?_))))))
        refine J_ungno rfl rfl rfl rfl ?_
        refine J_gdno rfl rfl rfl rfl (J_st (R_pickT rfl rfl) rfl (J_st (R_move rfl) rfl (J_gdno rfl rfl rfl rfl (J_gdno rfl rfl rfl rfl (J_gdno rfl rfl rfl rfl (J_gdno rfl rfl rfl rfl ?_))))))
        refine J_ungno rfl rfl rfl rfl ?_
        refine J_gdno rfl rfl rfl rfl (J_st (R_pickT rfl rfl) rfl (J_st (R_move rfl) rfl (J_gdno rfl rfl rfl rfl (J_gdno rfl rfl rfl rfl (J_gdno rfl rfl rfl rfl (J_gdno rfl rfl rfl rfl (J_gdno rfl rfl rfl rfl (J_gdno rfl rfl rfl rfl (J_gdno rfl rfl rfl rfl (J_st (R_pickT rfl rfl) rfl (J_cutEnd ⟨rfl, rfl, rfl, rfl, rfl, congrArg (fun b => some (Value.bool b)) (show true = ((((((((!(decide (x.queue = y.queue))) || (!(decide (x.staged = y.staged)))) || (!(decide (x.inputs = y.inputs)))) || (!(decide (x.cells = y.cells)))) || (!(decide (x.sums = y.sums)))) || (!(decide (x.black = y.black)))) || (!(decide (x.caps = y.caps)))) || (((x.dones.length : Nat) : Int) != ((y.dones.length : Nat) : Int))) by first | (rw [hg1, hg2] <;> rfl) | (simp [hg1, hg2]; done) | (simp only [nat_nlt] <;> simp)), trivial⟩ ⟨E, (by omega), h1, h2⟩)))))))))))
      · refine J_gd rfl rfl (R_fieldAddr0 fl72_2 rfl) rfl (J_gd rfl rfl (R_load sc66 rfl (h1.one 2 rfl)) rfl (J_gd rfl rfl (R_fieldAddr0 fl72_2 rfl) rfl (J_gd rfl rfl (R_load sc66 rfl (h2.one 2 rfl)) rfl ?_)))
        refine J_ung rfl rfl ?_
        refine J_call Try.call56 rfl (s_l05Same o3 x.inputs o11 y.inputs _ (hd3.rd.ext E) (hd11.rd.ext E)) rfl (fun _ w6 e5 hv => ?_)
        subst hv
        replace E := E.trans e5; replace h1 := h1.ext e5; replace h2 := h2.ext e5
        have z5 := e5.size
        refine J_gd rfl rfl (R_not rfl) rfl (J_st (R_pickF rfl rfl) rfl (J_st (R_move rfl) rfl ?_))
        refine J_if (gd := 28) rfl rfl (fun hg3 => ?_) (fun hg3 => ?_)
        · refine J_gdno rfl rfl rfl rfl (J_gdno rfl rfl rfl rfl (J_gdno rfl rfl rfl rfl (J_gdno rfl rfl rfl rfl ?_)))
          refine J_ungno rfl rfl rfl rfl ?_
          refine J_gdno rfl rfl rfl rfl (J_st (R_pickT rfl rfl) rfl (J_st (R_move rfl) rfl (J_gdno rfl rfl rfl rfl (J_gdno rfl rfl rfl rfl (J_gdno rfl rfl rfl rfl (J_gdno rfl rfl rfl rfl ?_))))))
          refine J_ungno rfl rfl rfl rfl ?_
          refine J_gdno rfl rfl rfl rfl (J_st (R_pickT rfl rfl) rfl (J_st (R_move rfl) rfl (J_gdno rfl rfl rfl rfl (J_gdno rfl rfl rfl rfl (J_gdno rfl rfl rfl rfl (J_gdno rfl rfl rfl rfl ?_))))))
          refine J_ungno rfl rfl rfl rfl ?_
          refine J_gdno rfl rfl rfl rfl (J_st (R_pickT rfl rfl) rfl (J_st (R_move rfl) rfl (J_gdno rfl rfl rfl rfl (J_gdno rfl rfl rfl rfl (J_gdno rfl rfl rfl rfl (J_gdno rfl rfl rfl rfl ?_))))))
          refine J_ungno rfl rfl rfl rfl ?_
          refine J_gdno rfl rfl rfl rfl (J_st (R_pickT rfl rfl) rfl (J_st (R_move rfl) rfl (J_gdno rfl rfl rfl rfl (J_gdno rfl rfl rfl rfl (J_gdno rfl rfl rfl rfl (J_gdno rfl rfl rfl rfl (J_gdno rfl rfl rfl rfl (J_gdno rfl rfl rfl rfl (J_gdno rfl rfl rfl rfl (J_st (R_pickT rfl rfl) rfl (J_cutEnd ⟨rfl, rfl, rfl, rfl, rfl, congrArg (fun b => some (Value.bool b)) (show true = ((((((((!(decide (x.queue = y.queue))) || (!(decide (x.staged = y.staged)))) || (!(decide (x.inputs = y.inputs)))) || (!(decide (x.cells = y.cells)))) || (!(decide (x.sums = y.sums)))) || (!(decide (x.black = y.black)))) || (!(decide (x.caps = y.caps)))) || (((x.dones.length : Nat) : Int) != ((y.dones.length : Nat) : Int))) by first | (rw [hg1, hg2, hg3] <;> rfl) | (simp [hg1, hg2, hg3]; done) | (simp only [nat_nlt] <;> simp)), trivial⟩ ⟨E, (by omega), h1, h2⟩)))))))))))
        · refine J_gd rfl rfl (R_fieldAddr0 fl72_3 rfl) rfl (J_gd rfl rfl (R_load sc67 rfl (h1.one 3 rfl)) rfl (J_gd rfl rfl (R_fieldAddr0 fl72_3 rfl) rfl (J_gd rfl rfl (R_load sc67 rfl (h2.one 3 rfl)) rfl ?_)))
          refine J_ung rfl rfl ?_
          refine J_call Try.call57 rfl (s_l09Same o4 x.cells o12 y.cells _ (hd4.rd.ext E) (hd12.rd.ext E)) rfl (fun _ w7 e6 hv => ?_)
          subst hv
          replace E := E.trans e6; replace h1 := h1.ext e6; replace h2 := h2.ext e6
          have z6 := e6.size
          refine J_gd rfl rfl (R_not rfl) rfl (J_st (R_pickF rfl rfl) rfl (J_st (R_move rfl) rfl ?_))
          refine J_if (gd := 36) rfl rfl (fun hg4 => ?_) (fun hg4 => ?_)
          · refine J_gdno rfl rfl rfl rfl (J_gdno rfl rfl rfl rfl (J_gdno rfl rfl rfl rfl (J_gdno rfl rfl rfl rfl ?_)))
            refine J_ungno rfl rfl rfl rfl ?_
            refine J_gdno rfl rfl rfl rfl (J_st (R_pickT rfl rfl) rfl (J_st (R_move rfl) rfl (J_gdno rfl rfl rfl rfl (J_gdno rfl rfl rfl rfl (J_gdno rfl rfl rfl rfl (J_gdno rfl rfl rfl rfl ?_))))))
            refine J_ungno rfl rfl rfl rfl ?_
            refine J_gdno rfl rfl rfl rfl (J_st (R_pickT rfl rfl) rfl (J_st (R_move rfl) rfl (J_gdno rfl rfl rfl rfl (J_gdno rfl rfl rfl rfl (J_gdno rfl rfl rfl rfl (J_gdno rfl rfl rfl rfl ?_))))))
            refine J_ungno rfl rfl rfl rfl ?_
            refine J_gdno rfl rfl rfl rfl (J_st (R_pickT rfl rfl) rfl (J_st (R_move rfl) rfl (J_gdno rfl rfl rfl rfl (J_gdno rfl rfl rfl rfl (J_gdno rfl rfl rfl rfl (J_gdno rfl rfl rfl rfl (J_gdno rfl rfl rfl rfl (J_gdno rfl rfl rfl rfl (J_gdno rfl rfl rfl rfl (J_st (R_pickT rfl rfl) rfl (J_cutEnd ⟨rfl, rfl, rfl, rfl, rfl, congrArg (fun b => some (Value.bool b)) (show true = ((((((((!(decide (x.queue = y.queue))) || (!(decide (x.staged = y.staged)))) || (!(decide (x.inputs = y.inputs)))) || (!(decide (x.cells = y.cells)))) || (!(decide (x.sums = y.sums)))) || (!(decide (x.black = y.black)))) || (!(decide (x.caps = y.caps)))) || (((x.dones.length : Nat) : Int) != ((y.dones.length : Nat) : Int))) by first | (rw [hg1, hg2, hg3, hg4] <;> rfl) | (simp [hg1, hg2, hg3, hg4]; done) | (simp only [nat_nlt] <;> simp)), trivial⟩ ⟨E, (by omega), h1, h2⟩)))))))))))
          · refine J_gd rfl rfl (R_fieldAddr0 fl72_4 rfl) rfl (J_gd rfl rfl (R_load sc68 rfl (h1.one 4 rfl)) rfl (J_gd rfl rfl (R_fieldAddr0 fl72_4 rfl) rfl (J_gd rfl rfl (R_load sc68 rfl (h2.one 4 rfl)) rfl ?_)))
            refine J_ung rfl rfl ?_
            refine J_call Try.call55 rfl (s_l08Ints o5 x.sums o13 y.sums _ (hd5.rd.ext E) (hd13.rd.ext E)) rfl (fun _ w8 e7 hv => ?_)
            subst hv
            replace E := E.trans e7; replace h1 := h1.ext e7; replace h2 := h2.ext e7
            have z7 := e7.size
            refine J_gd rfl rfl (R_not rfl) rfl (J_st (R_pickF rfl rfl) rfl (J_st (R_move rfl) rfl ?_))
            refine J_if (gd := 44) rfl rfl (fun hg5 => ?_) (fun hg5 => ?_)
            · refine J_gdno rfl rfl rfl rfl (J_gdno rfl rfl rfl rfl (J_gdno rfl rfl rfl rfl (J_gdno rfl rfl rfl rfl ?_)))
              refine J_ungno rfl rfl rfl rfl ?_
              refine J_gdno rfl rfl rfl rfl (J_st (R_pickT rfl rfl) rfl (J_st (R_move rfl) rfl (J_gdno rfl rfl rfl rfl (J_gdno rfl rfl rfl rfl (J_gdno rfl rfl rfl rfl (J_gdno rfl rfl rfl rfl ?_))))))
              refine J_ungno rfl rfl rfl rfl ?_
              refine J_gdno rfl rfl rfl rfl (J_st (R_pickT rfl rfl) rfl (J_st (R_move rfl) rfl (J_gdno rfl rfl rfl rfl (J_gdno rfl rfl rfl rfl (J_gdno rfl rfl rfl rfl (J_gdno rfl rfl rfl rfl (J_gdno rfl rfl rfl rfl (J_gdno rfl rfl rfl rfl (J_gdno rfl rfl rfl rfl (J_st (R_pickT rfl rfl) rfl (J_cutEnd ⟨rfl, rfl, rfl, rfl, rfl, congrArg (fun b => some (Value.bool b)) (show true = ((((((((!(decide (x.queue = y.queue))) || (!(decide (x.staged = y.staged)))) || (!(decide (x.inputs = y.inputs)))) || (!(decide (x.cells = y.cells)))) || (!(decide (x.sums = y.sums)))) || (!(decide (x.black = y.black)))) || (!(decide (x.caps = y.caps)))) || (((x.dones.length : Nat) : Int) != ((y.dones.length : Nat) : Int))) by first | (rw [hg1, hg2, hg3, hg4, hg5] <;> rfl) | (simp [hg1, hg2, hg3, hg4, hg5]; done) | (simp only [nat_nlt] <;> simp)), trivial⟩ ⟨E, (by omega), h1, h2⟩)))))))))))
            · refine J_gd rfl rfl (R_fieldAddr0 fl72_5 rfl) rfl (J_gd rfl rfl (R_load sc69 rfl (h1.one 5 rfl)) rfl (J_gd rfl rfl (R_fieldAddr0 fl72_5 rfl) rfl (J_gd rfl rfl (R_load sc69 rfl (h2.one 5 rfl)) rfl ?_)))
              refine J_ung rfl rfl ?_
              refine J_call Try.call58 rfl (s_l12Bits o6 x.black o14 y.black _ (hd6.rd.ext E) (hd14.rd.ext E)) rfl (fun _ w9 e8 hv => ?_)
              subst hv
              replace E := E.trans e8; replace h1 := h1.ext e8; replace h2 := h2.ext e8
              have z8 := e8.size
              refine J_gd rfl rfl (R_not rfl) rfl (J_st (R_pickF rfl rfl) rfl (J_st (R_move rfl) rfl ?_))
              refine J_if (gd := 52) rfl rfl (fun hg6 => ?_) (fun hg6 => ?_)
              · refine J_gdno rfl rfl rfl rfl (J_gdno rfl rfl rfl rfl (J_gdno rfl rfl rfl rfl (J_gdno rfl rfl rfl rfl ?_)))
                refine J_ungno rfl rfl rfl rfl ?_
                refine J_gdno rfl rfl rfl rfl (J_st (R_pickT rfl rfl) rfl (J_st (R_move rfl) rfl (J_gdno rfl rfl rfl rfl (J_gdno rfl rfl rfl rfl (J_gdno rfl rfl rfl rfl (J_gdno rfl rfl rfl rfl (J_gdno rfl rfl rfl rfl (J_gdno rfl rfl rfl rfl (J_gdno rfl rfl rfl rfl (J_st (R_pickT rfl rfl) rfl (J_cutEnd ⟨rfl, rfl, rfl, rfl, rfl, congrArg (fun b => some (Value.bool b)) (show true = ((((((((!(decide (x.queue = y.queue))) || (!(decide (x.staged = y.staged)))) || (!(decide (x.inputs = y.inputs)))) || (!(decide (x.cells = y.cells)))) || (!(decide (x.sums = y.sums)))) || (!(decide (x.black = y.black)))) || (!(decide (x.caps = y.caps)))) || (((x.dones.length : Nat) : Int) != ((y.dones.length : Nat) : Int))) by first | (rw [hg1, hg2, hg3, hg4, hg5, hg6] <;> rfl) | (simp [hg1, hg2, hg3, hg4, hg5, hg6]; done) | (simp only [nat_nlt] <;> simp)), trivial⟩ ⟨E, (by omega), h1, h2⟩)))))))))))
              · refine J_gd rfl rfl (R_fieldAddr0 fl72_6 rfl) rfl (J_gd rfl rfl (R_load sc69 rfl (h1.one 6 rfl)) rfl (J_gd rfl rfl (R_fieldAddr0 fl72_6 rfl) rfl (J_gd rfl rfl (R_load sc69 rfl (h2.one 6 rfl)) rfl ?_)))
                refine J_ung rfl rfl ?_
                refine J_call Try.call58 rfl (s_l12Bits o7 x.caps o15 y.caps _ (hd7.rd.ext E) (hd15.rd.ext E)) rfl (fun _ w10 e9 hv => ?_)
                subst hv
                replace E := E.trans e9; replace h1 := h1.ext e9; replace h2 := h2.ext e9
                have z9 := e9.size
                refine J_gd rfl rfl (R_not rfl) rfl (J_st (R_pickF rfl rfl) rfl (J_st (R_move rfl) rfl ?_))
                refine J_if (gd := 60) rfl rfl (fun hg7 => ?_) (fun hg7 => ?_)
                · refine J_gdno rfl rfl rfl rfl (J_gdno rfl rfl rfl rfl (J_gdno rfl rfl rfl rfl (J_gdno rfl rfl rfl rfl (J_gdno rfl rfl rfl rfl (J_gdno rfl rfl rfl rfl (J_gdno rfl rfl rfl rfl (J_st (R_pickT rfl rfl) rfl (J_cutEnd ⟨rfl, rfl, rfl, rfl, rfl, congrArg (fun b => some (Value.bool b)) (show true = ((((((((!(decide (x.queue = y.queue))) || (!(decide (x.staged = y.staged)))) || (!(decide (x.inputs = y.inputs)))) || (!(decide (x.cells = y.cells)))) || (!(decide (x.sums = y.sums)))) || (!(decide (x.black = y.black)))) || (!(decide (x.caps = y.caps)))) || (((x.dones.length : Nat) : Int) != ((y.dones.length : Nat) : Int))) by first | (rw [hg1, hg2, hg3, hg4, hg5, hg6, hg7] <;> rfl) | (simp [hg1, hg2, hg3, hg4, hg5, hg6, hg7]; done) | (simp only [nat_nlt] <;> simp)), trivial⟩ ⟨E, (by omega), h1, h2⟩))))))))
                · refine J_gd rfl rfl (R_fieldAddr0 fl72_7 rfl) rfl (J_gd rfl rfl (R_load sc70 rfl (h1.one 7 rfl)) rfl (J_gd rfl rfl (R_len Try.underlying70 rfl (hd8.ext E).len) rfl (J_gd rfl rfl (R_fieldAddr0 fl72_7 rfl) rfl (J_gd rfl rfl (R_load sc70 rfl (h2.one 7 rfl)) rfl (J_gd rfl rfl (R_len Try.underlying70 rfl (hd16.ext E).len) rfl (J_gd rfl rfl (R_neq rfl rfl) rfl (J_st (R_pickF rfl rfl) rfl (J_cutEnd ⟨rfl, rfl, rfl, rfl, rfl, congrArg (fun b => some (Value.bool b)) (show (((x.dones.length : Nat) : Int) != ((y.dones.length : Nat) : Int)) = ((((((((!(decide (x.queue = y.queue))) || (!(decide (x.staged = y.staged)))) || (!(decide (x.inputs = y.inputs)))) || (!(decide (x.cells = y.cells)))) || (!(decide (x.sums = y.sums)))) || (!(decide (x.black = y.black)))) || (!(decide (x.caps = y.caps)))) || (((x.dones.length : Nat) : Int) != ((y.dones.length : Nat) : Int))) by first | (rw [hg1, hg2, hg3, hg4, hg5, hg6, hg7] <;> rfl) | (simp [hg1, hg2, hg3, hg4, hg5, hg6, hg7]; done) | (simp only [nat_nlt] <;> simp)), trivial⟩ ⟨E, (by omega), h1, h2⟩))))))))
  clear E h1 h2
  rintro w4 ⟨E, z10, h1, h2⟩
  refine J_done ?_
  refine S_cond rfl (fun hc1 => ?_) (fun hc1 => ?_)
  · refine S_seq ?_
    refine S_reg [true] rfl rfl ?_
    refine J_st (R_assign rfl) rfl (J_done ?_)
    refine S_ret (E_done1 rfl rfl E ?_)
    exact bf fun h => by have h := of_decide_eq_true h; subst h; simp at hc1
  · refine S_skip ?_
    refine S_seq ?_
    refine S_seq ?_
    refine S_reg [true] rfl rfl ?_
    refine J_st (R_assign rfl) rfl (J_done ?_)
    refine S_block ?_
    refine S_loop (fun (k : Nat) => [(2, .pointer (some ⟨b1, 0, none⟩)), (3, .pointer (some ⟨b2, 0, none⟩)), (4, .bool false), (5, .int .i64 ((k : Nat) : Int))]) (fun (k : Nat) w' => Ext w w' ∧ w4.heap.size ≤ w'.heap.size ∧ Blk w' b1 ([o1, o2, o3, o4, o5, o6, o7, o8]) ∧ Blk w' b2 ([o9, o10, o11, o12, o13, o14, o15, o16]) ∧ k ≤ x.dones.length ∧ x.dones.take k = y.dones.take k) (fun (k : Nat) => x.dones.length - k) 0 ⟨rfl, rfl, rfl, rfl, trivial⟩ ⟨E, Nat.le_refl _, h1, h2, Nat.zero_le _, rfl⟩ ?_
    clear E h1 h2
    rintro k w11 ⟨E, z11, h1, h2, hk, hp⟩
    have hle := sw_len hc1
    refine S_seq ?_
    refine S_seq ?_
    refine S_reg [true, true, true, true, true] rfl rfl ?_
    refine J_st (R_move rfl) rfl (J_st (R_fieldAddr0 fl72_7 rfl) rfl (J_st (R_load sc70 rfl (h1.one 7 rfl)) rfl (J_st (R_len Try.underlying70 rfl (hd8.ext E).len) rfl (J_st (R_lss rfl rfl) rfl (J_done ?_)))))
    refine S_cond rfl (fun hc2 => ?_) (fun hc2 => ?_)
    · have hc2n : k < x.dones.length := by first | (have h := of_decide_eq_true hc2; omega) | (have h := hc2; simp at h; omega)
      refine S_skip ?_
      refine S_seq ?_
      refine S_block ?_
      refine S_seq ?_
      refine S_regD mixed [(0, true), (1, true), (2, true), (3, true), (4, true), (5, true), (6, true), (7, true), (8, true), (9, true), (10, true)] (by decide +kernel) rfl (fun w12 e10 => ?_)
      replace E := E.trans e10; replace h1 := h1.ext e10; replace h2 := h2.ext e10
      have z12 := e10.size
      refine J_st (R_fieldAddr0 fl72_7 rfl) rfl (J_st (R_load sc70 rfl (h1.one 7 rfl)) rfl (J_st (R_move rfl) rfl ?_))
      have hi1 : k < x.dones.length := (by first | assumption | omega)
      refine J_st (R_index (i := k) sl70 rfl rfl (hd8.rd.ext E) hi1) rfl (J_st (R_loadS st108 rfl ((hd8.rd.ext E).get hi1) rfl) rfl (J_st (R_fieldAddr0 fl72_7 rfl) rfl (J_st (R_load sc70 rfl (h2.one 7 rfl)) rfl (J_st (R_move rfl) rfl ?_))))
      have hi2 : k < y.dones.length := (by first | assumption | omega)
      refine J_st (R_index (i := k) sl70 rfl rfl (hd16.rd.ext E) hi2) rfl (J_st (R_loadS st108 rfl ((hd16.rd.ext E).get hi2) rfl) rfl (J_st (R_neqS (ne108 (x.dones[k]'hi1) (y.dones[k]'hi2)) eqg108 rfl rfl) rfl (J_done ?_)))
      refine S_cond rfl (fun hc3 => ?_) (fun hc3 => ?_)
      · refine S_seq ?_
        refine S_reg [true] rfl rfl ?_
        refine J_st (R_assign rfl) rfl (J_done ?_)
        refine S_ret (E_inB_ret (E_lp_ret (E_inB_ret (E_done1 rfl rfl E ?_))))
        exact bf fun h => by have h := of_decide_eq_true h; subst h; simp at hc3
      · refine S_skip ?_
        refine S_nil (E_inB ?_)
        refine S_reg [true, true, true] rfl rfl ?_
        refine J_st (R_move rfl) rfl (J_st (R_add rfl rfl (add_one hc2n (hd8.ext E).1.1)) rfl (J_st (R_assign rfl) rfl (J_done ?_)))
        refine S_nil (E_again (k + 1) (by omega) ⟨rfl, rfl, rfl, rfl, trivial⟩ ⟨E, (by omega), h1, h2, (by omega), eqS_step hp (by assumption) (by omega) (by simpa using hc3)⟩)
    · have hc2n : ¬ k < x.dones.length := by first | (have h := of_decide_eq_false hc2; omega) | (have h := hc2; simp at h; omega)
      refine S_exit (E_lp_exit (E_inB_exit ?_))
      refine S_seq ?_
      refine S_reg [true] rfl rfl ?_
      refine J_st (R_assign rfl) rfl (J_done ?_)
      refine S_ret (E_done1 rfl rfl E ?_)
      exact sw_yes hc1 (by rw [List.take_of_length_le (by omega), List.take_of_length_le (by have := sw_len hc1; omega)] at hp; exact hp)

set_option maxRecDepth 20000 in
theorem c_toToken (x : Token) (w : World)  : Ct Try.prog 48 [.agg (Enc.enc x).toArray] w (fun v _ => v = .agg (Enc.enc x).toArray) := by
  refine ct_of Try.func48 rfl Try.ntmps48 rfl ?_
  refine S_sub [(0, .agg (Enc.enc x).toArray)] ⟨rfl, trivial⟩ ?_
  have E : Ext w w := Ext.refl w
  refine S_seq ?_
  refine S_reg [false, false] rfl rfl ?_
  refine J_box rfl rfl (fun b1 w1 e1 s1 h1 => ?_)
  have g_b1 : w.heap.size ≤ b1 := by have := E.size; omega
  have y_b1 := h1.lt
  replace E := E.trans e1
  have z1 := e1.size
  refine J_alloc st54 rfl (fun b2 w2 e2 s2 h2 => ?_)
  have g_b2 : w.heap.size ≤ b2 := by have := E.size; omega
  have y_b2 := h2.lt
  replace E := E.trans e2; replace h1 := h1.ext e2
  have z2 := e2.size
  refine J_done ?_
  refine S_seq ?_
  refine S_reg [false] rfl rfl ?_
  refine J_alloc st54 rfl (fun b3 w3 e3 s3 h3 => ?_)
  have g_b3 : w.heap.size ≤ b3 := by have := E.size; omega
  have y_b3 := h3.lt
  replace E := E.trans e3; replace h1 := h1.ext e3; replace h2 := h2.ext e3
  have z3 := e3.size
  refine J_done ?_
  refine S_seq ?_
  refine S_reg [true, true, true, false] rfl rfl ?_
  refine J_st (R_fieldAddr0 fl95_0 rfl) rfl (J_st (R_load sc4 rfl (h1.one 0 rfl)) rfl (J_st (R_fieldAddr0 fl54_0 rfl) rfl ?_))
  refine J_store' (cs' := [.bool x.going, .int .i64 0, .int .i64 0, .bool false, .bool false]) sc4 rfl rfl rfl h3 (Nat.le_of_ble_eq_true rfl) rfl (fun w4 m1 h3' => ?_)
  replace h3 := h3'
  replace E := E.step m1 (fun g hg => by cases hg; omega); replace h1 := h1.mod m1 (fun g hg => by cases hg; omega); replace h2 := h2.mod m1 (fun g hg => by cases hg; omega)
  have z4 := m1.size
  refine J_done ?_
  refine S_seq ?_
  refine S_reg [true, true, true, false] rfl rfl ?_
  refine J_st (R_fieldAddr0 fl95_1 rfl) rfl (J_st (R_load sc3 rfl (h1.one 1 rfl)) rfl (J_st (R_fieldAddr0 fl54_1 rfl) rfl ?_))
  refine J_store' (cs' := [.bool x.going, .int .i64 x.place, .int .i64 0, .bool false, .bool false]) sc3 rfl rfl rfl h3 (Nat.le_of_ble_eq_true rfl) rfl (fun w5 m2 h3' => ?_)
  replace h3 := h3'
  replace E := E.step m2 (fun g hg => by cases hg; omega); replace h1 := h1.mod m2 (fun g hg => by cases hg; omega); replace h2 := h2.mod m2 (fun g hg => by cases hg; omega)
  have z5 := m2.size
  refine J_done ?_
  refine S_seq ?_
  refine S_reg [true, true, true, false] rfl rfl ?_
  refine J_st (R_fieldAddr0 fl95_2 rfl) rfl (J_st (R_load sc3 rfl (h1.one 2 rfl)) rfl (J_st (R_fieldAddr0 fl54_2 rfl) rfl ?_))
  refine J_store' (cs' := [.bool x.going, .int .i64 x.place, .int .i64 x.sum, .bool false, .bool false]) sc3 rfl rfl rfl h3 (Nat.le_of_ble_eq_true rfl) rfl (fun w6 m3 h3' => ?_)
  replace h3 := h3'
  replace E := E.step m3 (fun g hg => by cases hg; omega); replace h1 := h1.mod m3 (fun g hg => by cases hg; omega); replace h2 := h2.mod m3 (fun g hg => by cases hg; omega)
  have z6 := m3.size
  refine J_done ?_
  refine S_seq ?_
  refine S_reg [true, true, true, false] rfl rfl ?_
  refine J_st (R_fieldAddr0 fl95_3 rfl) rfl (J_st (R_load sc4 rfl (h1.one 3 rfl)) rfl (J_st (R_fieldAddr0 fl54_3 rfl) rfl ?_))
  refine J_store' (cs' := [.bool x.going, .int .i64 x.place, .int .i64 x.sum, .bool x.black, .bool false]) sc4 rfl rfl rfl h3 (Nat.le_of_ble_eq_true rfl) rfl (fun w7 m4 h3' => ?_)
  replace h3 := h3'
  replace E := E.step m4 (fun g hg => by cases hg; omega); replace h1 := h1.mod m4 (fun g hg => by cases hg; omega); replace h2 := h2.mod m4 (fun g hg => by cases hg; omega)
  have z7 := m4.size
  refine J_done ?_
  refine S_seq ?_
  refine S_reg [true, true, true, false] rfl rfl ?_
  refine J_st (R_fieldAddr0 fl95_4 rfl) rfl (J_st (R_load sc4 rfl (h1.one 4 rfl)) rfl (J_st (R_fieldAddr0 fl54_4 rfl) rfl ?_))
  refine J_store' (cs' := [.bool x.going, .int .i64 x.place, .int .i64 x.sum, .bool x.black, .bool x.capped]) sc4 rfl rfl rfl h3 (Nat.le_of_ble_eq_true rfl) rfl (fun w8 m5 h3' => ?_)
  replace h3 := h3'
  replace E := E.step m5 (fun g hg => by cases hg; omega); replace h1 := h1.mod m5 (fun g hg => by cases hg; omega); replace h2 := h2.mod m5 (fun g hg => by cases hg; omega)
  have z8 := m5.size
  refine J_done ?_
  refine S_seq ?_
  refine S_reg [true, false] rfl rfl ?_
  refine J_st (R_loadS st54 rfl h3.at rfl) rfl ?_
  refine J_storeS' (cs' := [.bool x.going, .int .i64 x.place, .int .i64 x.sum, .bool x.black, .bool x.capped]) st54 rfl rfl rfl rfl h2 (Nat.le_of_ble_eq_true rfl) rfl (fun w9 m6 h2' => ?_)
  replace h2 := h2'
  replace E := E.step m6 (fun g hg => by cases hg; omega); replace h1 := h1.mod m6 (fun g hg => by cases hg; omega); replace h3 := h3.mod m6 (fun g hg => by cases hg; omega)
  have z9 := m6.size
  refine J_done ?_
  refine S_ret (E_doneC rfl rfl (run_loadVar_st st54 h2.at rfl) E ?_)
  rfl

set_option maxRecDepth 20000 in
theorem c_eqToken (x : Token) (y : Token) (w : World)  : Ct Try.prog 53 [.agg (Enc.enc x).toArray, .agg (Enc.enc y).toArray] w (fun v _ => v = .bool (decide (x = y))) := by
  refine ct_of Try.func53 rfl Try.ntmps53 rfl ?_
  refine S_sub [(0, .agg (Enc.enc x).toArray), (1, .agg (Enc.enc y).toArray)] ⟨rfl, rfl, trivial⟩ ?_
  have E : Ext w w := Ext.refl w
  refine S_seq ?_
  refine S_reg [false, false, true] rfl rfl ?_
  refine J_box rfl rfl (fun b1 w1 e1 s1 h1 => ?_)
  have g_b1 : w.heap.size ≤ b1 := by have := E.size; omega
  have y_b1 := h1.lt
  replace E := E.trans e1
  have z1 := e1.size
  refine J_box rfl rfl (fun b2 w2 e2 s2 h2 => ?_)
  have g_b2 : w.heap.size ≤ b2 := by have := E.size; omega
  have y_b2 := h2.lt
  replace E := E.trans e2; replace h1 := h1.ext e2
  have z2 := e2.size
  refine J_st (R_assign rfl) rfl (J_done ?_)
  refine S_seq ?_
  refine S_seq ?_
  refine S_reg [true, true, true, true, true] rfl rfl ?_
  refine J_st (R_fieldAddr0 fl54_0 rfl) rfl (J_st (R_load sc4 rfl (h1.one 0 rfl)) rfl (J_st (R_fieldAddr0 fl54_0 rfl) rfl (J_st (R_load sc4 rfl (h2.one 0 rfl)) rfl (J_st (R_neqB (Try.underlying4) rfl rfl) rfl (J_done ?_)))))
  refine S_cond rfl (fun hc1 => ?_) (fun hc1 => ?_)
  · refine S_seq ?_
    refine S_reg [true] rfl rfl ?_
    refine J_st (R_assign rfl) rfl (J_done ?_)
    refine S_ret (E_done1 rfl rfl E ?_)
    cases x; cases y; simp_all
  · refine S_skip ?_
    refine S_seq ?_
    refine S_seq ?_
    refine S_reg [true, true, true, true, true] rfl rfl ?_
    refine J_st (R_fieldAddr0 fl54_1 rfl) rfl (J_st (R_load sc3 rfl (h1.one 1 rfl)) rfl (J_st (R_fieldAddr0 fl54_1 rfl) rfl (J_st (R_load sc3 rfl (h2.one 1 rfl)) rfl (J_st (R_neq rfl rfl) rfl (J_done ?_)))))
    refine S_cond rfl (fun hc2 => ?_) (fun hc2 => ?_)
    · refine S_seq ?_
      refine S_reg [true] rfl rfl ?_
      refine J_st (R_assign rfl) rfl (J_done ?_)
      refine S_ret (E_done1 rfl rfl E ?_)
      cases x; cases y; simp_all
    · refine S_skip ?_
      refine S_seq ?_
      refine S_seq ?_
      refine S_reg [true, true, true, true, true] rfl rfl ?_
      refine J_st (R_fieldAddr0 fl54_2 rfl) rfl (J_st (R_load sc3 rfl (h1.one 2 rfl)) rfl (J_st (R_fieldAddr0 fl54_2 rfl) rfl (J_st (R_load sc3 rfl (h2.one 2 rfl)) rfl (J_st (R_neq rfl rfl) rfl (J_done ?_)))))
      refine S_cond rfl (fun hc3 => ?_) (fun hc3 => ?_)
      · refine S_seq ?_
        refine S_reg [true] rfl rfl ?_
        refine J_st (R_assign rfl) rfl (J_done ?_)
        refine S_ret (E_done1 rfl rfl E ?_)
        cases x; cases y; simp_all
      · refine S_skip ?_
        refine S_seq ?_
        refine S_seq ?_
        refine S_reg [true, true, true, true, true] rfl rfl ?_
        refine J_st (R_fieldAddr0 fl54_3 rfl) rfl (J_st (R_load sc4 rfl (h1.one 3 rfl)) rfl (J_st (R_fieldAddr0 fl54_3 rfl) rfl (J_st (R_load sc4 rfl (h2.one 3 rfl)) rfl (J_st (R_neqB (Try.underlying4) rfl rfl) rfl (J_done ?_)))))
        refine S_cond rfl (fun hc4 => ?_) (fun hc4 => ?_)
        · refine S_seq ?_
          refine S_reg [true] rfl rfl ?_
          refine J_st (R_assign rfl) rfl (J_done ?_)
          refine S_ret (E_done1 rfl rfl E ?_)
          cases x; cases y; simp_all
        · refine S_skip ?_
          refine S_seq ?_
          refine S_seq ?_
          refine S_reg [true, true, true, true, true] rfl rfl ?_
          refine J_st (R_fieldAddr0 fl54_4 rfl) rfl (J_st (R_load sc4 rfl (h1.one 4 rfl)) rfl (J_st (R_fieldAddr0 fl54_4 rfl) rfl (J_st (R_load sc4 rfl (h2.one 4 rfl)) rfl (J_st (R_neqB (Try.underlying4) rfl rfl) rfl (J_done ?_)))))
          refine S_cond rfl (fun hc5 => ?_) (fun hc5 => ?_)
          · refine S_seq ?_
            refine S_reg [true] rfl rfl ?_
            refine J_st (R_assign rfl) rfl (J_done ?_)
            refine S_ret (E_done1 rfl rfl E ?_)
            cases x; cases y; simp_all
          · refine S_skip ?_
            refine S_seq ?_
            refine S_reg [true] rfl rfl ?_
            refine J_st (R_assign rfl) rfl (J_done ?_)
            refine S_ret (E_done1 rfl rfl E ?_)
            cases x; cases y; simp_all

set_option maxRecDepth 20000 in
theorem c_szTokenS (vxs : Value) (xs : List Token) (n : Int) (w : World) (hxs : RdS w vxs xs) (h0 : 0 ≤ n ∧ n ≤ 1048576) : Ct Try.prog 18 [vxs, .int .i64 n] w (fun v _ => v = .int .i64 (szM xs.length n)) := by
  refine ct_of Try.func18 rfl Try.ntmps18 rfl ?_
  refine S_sub [(0, vxs), (1, .int .i64 n)] ⟨rfl, rfl, trivial⟩ ?_
  have E : Ext w w := Ext.refl w
  refine S_seq ?_
  refine S_reg [true] rfl rfl ?_
  refine J_st (R_assign rfl) rfl (J_done ?_)
  refine S_seq ?_
  refine S_reg [true, true, true, true, true] rfl rfl ?_
  refine J_st (R_move rfl) rfl (J_st (R_move rfl) rfl (J_st (R_len Try.underlying27 rfl (hxs.ext E).len) rfl (J_st (R_sub rfl rfl rfl) rfl (J_st (R_assign rfl) rfl (J_done ?_)))))
  refine S_seq ?_
  refine S_seq ?_
  refine S_reg [true, true] rfl rfl ?_
  refine J_st (R_move rfl) rfl (J_st (R_lss rfl rfl) rfl (J_done ?_))
  refine S_cond rfl (fun hc1 => ?_) (fun hc1 => ?_)
  · refine S_seq ?_
    refine S_reg [true] rfl rfl ?_
    refine J_st (R_assign rfl) rfl (J_done ?_)
    refine S_ret (E_done1 rfl rfl E ?_)
    exact sz_no h0.2 h0.1 hxs.1 hc1
  · refine S_skip ?_
    refine S_seq ?_
    refine S_reg [true, true] rfl rfl ?_
    refine J_st (R_move rfl) rfl (J_st (R_assign rfl) rfl (J_done ?_))
    refine S_ret (E_done1 rfl rfl E ?_)
    exact sz_yes h0.2 h0.1 hxs.1 hc1

set_option maxRecDepth 20000 in
theorem c_toTokenS (vxs : Value) (xs : List Token) (w : World) (hxs : RdS w vxs xs) (hb : xs.length ≤ 1048576) : Ct Try.prog 23 [vxs] w (fun v w' => Own w' w.heap.size w'.heap.size 5 v (List.flatMap (Enc.enc (α := Token)) xs)) := by
  refine ct_of Try.func23 rfl Try.ntmps23 rfl ?_
  refine S_sub [(0, vxs)] ⟨rfl, trivial⟩ ?_
  have E : Ext w w := Ext.refl w
  refine S_seq ?_
  refine S_reg [true] rfl rfl ?_
  refine J_st (R_assign rfl) rfl (J_done ?_)
  refine S_seq ?_
  refine S_reg [true, true, false, true] rfl rfl ?_
  refine J_st (R_move rfl) rfl (J_st (R_len Try.underlying27 rfl (hxs.ext E).len) rfl ?_)
  refine J_make (m := xs.length) sl38 rfl rfl (by omega) (by decide) rfl (fun b1 w1 e1 s1 h1 => ?_)
  have g_b1 : w.heap.size ≤ b1 := by have := E.size; omega
  have y_b1 := h1.lt
  replace E := E.trans e1
  have z1 := e1.size
  refine J_st (R_assign rfl) rfl (J_done ?_)
  refine S_seq ?_
  refine S_seq ?_
  refine S_reg [true] rfl rfl ?_
  refine J_st (R_assign rfl) rfl (J_done ?_)
  refine S_block ?_
  refine S_loop (fun (k : Nat) => [(0, vxs), (2, .slice none 0 0), (3, .slice (some ⟨b1, 0, none⟩) xs.length xs.length), (4, .int .i64 ((k : Nat) : Int))]) (fun (k : Nat) w' => Ext w w' ∧ w1.heap.size ≤ w'.heap.size ∧ k ≤ xs.length ∧ Blk w' b1 (mk xs [.bool false, .int .i64 0, .int .i64 0, .bool false, .bool false] k xs.length)) (fun (k : Nat) => xs.length - k) 0 ⟨rfl, rfl, rfl, rfl, trivial⟩ ⟨E, Nat.le_refl _, Nat.zero_le _, (mk_zero xs [.bool false, .int .i64 0, .int .i64 0, .bool false, .bool false] xs.length) ▸ h1⟩ ?_
  clear E h1
  rintro k w2 ⟨E, z2, hk, h1⟩
  refine S_seq ?_
  refine S_seq ?_
  refine S_reg [true, true, true, true] rfl rfl ?_
  refine J_st (R_move rfl) rfl (J_st (R_move rfl) rfl (J_st (R_len Try.underlying27 rfl (hxs.ext E).len) rfl (J_st (R_lss rfl rfl) rfl (J_done ?_))))
  refine S_cond rfl (fun hc1 => ?_) (fun hc1 => ?_)
  · have hc1n : k < xs.length := by first | (have h := of_decide_eq_true hc1; omega) | (have h := hc1; simp at h; omega)
    refine S_skip ?_
    refine S_seq ?_
    refine S_block ?_
    refine S_reg [true, true, true, true, true, true, false, true, false] rfl rfl ?_
    refine J_st (R_move rfl) rfl (J_st (R_move rfl) rfl (J_st (R_move rfl) rfl (J_st (R_move rfl) rfl ?_)))
    have hi1 : k < xs.length := (by first | assumption | omega)
    refine J_st (R_index (i := k) sl27 rfl rfl (hxs.ext E) hi1) rfl (J_st (R_loadS st95 rfl ((hxs.ext E).get hi1) rfl) rfl ?_)
    refine J_call Try.call48 rfl (c_toToken (xs[k]'hi1) _ ) rfl (fun _ w3 e2 hv => ?_)
    subst hv
    replace E := E.trans e2; replace h1 := h1.ext e2
    have z3 := e2.size
    refine J_st (R_indexB sl38 rfl rfl (by first | assumption | omega)) rfl ?_
    refine J_storeS' (cs' := mk xs [.bool false, .int .i64 0, .int .i64 0, .bool false, .bool false] (k + 1) xs.length) st54 rfl rfl rfl rfl h1 (mk_room xs [.bool false, .int .i64 0, .int .i64 0, .bool false, .bool false] rfl hc1n hc1n (by rfl)) (mk_step xs [.bool false, .int .i64 0, .int .i64 0, .bool false, .bool false] rfl hc1n hc1n) (fun w4 m1 h1' => ?_)
    replace h1 := h1'
    replace E := E.step m1 (fun g hg => by cases hg; omega)
    have z4 := m1.size
    refine J_done ?_
    refine S_nil (E_inB ?_)
    refine S_reg [true, true, true] rfl rfl ?_
    refine J_st (R_move rfl) rfl (J_st (R_add rfl rfl (add_one hc1n hxs.1)) rfl (J_st (R_assign rfl) rfl (J_done ?_)))
    refine S_nil (E_again (k + 1) (by omega) ⟨rfl, rfl, rfl, rfl, trivial⟩ ⟨E, (by omega), (by omega), h1⟩)
  · have hc1n : ¬ k < xs.length := by first | (have h := of_decide_eq_false hc1; omega) | (have h := hc1; simp at h; omega)
    refine S_exit (E_lp_exit (E_inB_exit ?_))
    refine S_seq ?_
    refine S_reg [true, true] rfl rfl ?_
    refine J_st (R_move rfl) rfl (J_st (R_assign rfl) rfl (J_done ?_))
    refine S_ret (E_done1 rfl rfl E ?_)
    obtain rfl : k = xs.length := by omega
    rw [mk_all] at h1
    exact Own.ofBlk h1 (by omega) (by have := h1.lt; omega) (sum_flat xs) hxs.1

set_option maxRecDepth 20000 in
theorem c_eqTokenS (vxs : Value) (xs : List Token) (vys : Value) (ys : List Token) (w : World) (hxs : RdS w vxs xs) (hys : RdS w vys ys) : Ct Try.prog 28 [vxs, vys] w (fun v _ => v = .bool (decide (xs = ys))) := by
  refine ct_of Try.func28 rfl Try.ntmps28 rfl ?_
  refine S_sub [(0, vxs), (1, vys)] ⟨rfl, rfl, trivial⟩ ?_
  have E : Ext w w := Ext.refl w
  refine S_seq ?_
  refine S_reg [true] rfl rfl ?_
  refine J_st (R_assign rfl) rfl (J_done ?_)
  refine S_seq ?_
  refine S_seq ?_
  refine S_reg [true, true, true, true, true] rfl rfl ?_
  refine J_st (R_move rfl) rfl (J_st (R_len Try.underlying38 rfl (hxs.ext E).len) rfl (J_st (R_move rfl) rfl (J_st (R_len Try.underlying38 rfl (hys.ext E).len) rfl (J_st (R_neq rfl rfl) rfl (J_done ?_)))))
  refine S_cond rfl (fun hc1 => ?_) (fun hc1 => ?_)
  · have hc1n : ¬ xs.length = ys.length := by first | (have h := of_decide_eq_true hc1; omega) | (have h := hc1; simp at h; omega)
    refine S_seq ?_
    refine S_reg [true] rfl rfl ?_
    refine J_st (R_assign rfl) rfl (J_done ?_)
    refine S_ret (E_done1 rfl rfl E ?_)
    simp [eq_len hc1n]
  · have hc1n : xs.length = ys.length := by first | (have h := of_decide_eq_false hc1; omega) | (have h := hc1; simp at h; omega)
    refine S_skip ?_
    refine S_seq ?_
    refine S_seq ?_
    refine S_reg [true] rfl rfl ?_
    refine J_st (R_assign rfl) rfl (J_done ?_)
    refine S_block ?_
    refine S_loop (fun (k : Nat) => [(0, vxs), (1, vys), (4, .bool false), (5, .int .i64 ((k : Nat) : Int))]) (fun (k : Nat) w' => Ext w w' ∧ w.heap.size ≤ w'.heap.size ∧ k ≤ xs.length ∧ xs.take k = ys.take k) (fun (k : Nat) => xs.length - k) 0 ⟨rfl, rfl, rfl, rfl, trivial⟩ ⟨E, Nat.le_refl _, Nat.zero_le _, rfl⟩ ?_
    clear E
    rintro k w1 ⟨E, z1, hk, hp⟩
    refine S_seq ?_
    refine S_seq ?_
    refine S_reg [true, true, true, true] rfl rfl ?_
    refine J_st (R_move rfl) rfl (J_st (R_move rfl) rfl (J_st (R_len Try.underlying38 rfl (hxs.ext E).len) rfl (J_st (R_lss rfl rfl) rfl (J_done ?_))))
    refine S_cond rfl (fun hc2 => ?_) (fun hc2 => ?_)
    · have hc2n : k < xs.length := by first | (have h := of_decide_eq_true hc2; omega) | (have h := hc2; simp at h; omega)
      refine S_skip ?_
      refine S_seq ?_
      refine S_block ?_
      refine S_seq ?_
      refine S_regD mixed [(0, true), (1, true), (2, true), (3, true), (4, true), (5, true), (6, true), (7, true), (8, false), (9, true)] (by decide +kernel) rfl (fun w2 e1 => ?_)
      replace E := E.trans e1
      have z2 := e1.size
      refine J_st (R_move rfl) rfl (J_st (R_move rfl) rfl ?_)
      have hi1 : k < xs.length := (by first | assumption | omega)
      refine J_st (R_index (i := k) sl38 rfl rfl (hxs.ext E) hi1) rfl (J_st (R_loadS st54 rfl ((hxs.ext E).get hi1) rfl) rfl (J_st (R_move rfl) rfl (J_st (R_move rfl) rfl ?_)))
      have hi2 : k < ys.length := (by first | assumption | omega)
      refine J_st (R_index (i := k) sl38 rfl rfl (hys.ext E) hi2) rfl (J_st (R_loadS st54 rfl ((hys.ext E).get hi2) rfl) rfl ?_)
      refine J_call Try.call53 rfl (c_eqToken (xs[k]'hi1) (ys[k]'hi2) _ ) rfl (fun _ w3 e2 hv => ?_)
      subst hv
      replace E := E.trans e2
      have z3 := e2.size
      refine J_st (R_not rfl) rfl (J_done ?_)
      refine S_cond rfl (fun hc3 => ?_) (fun hc3 => ?_)
      · refine S_seq ?_
        refine S_reg [true] rfl rfl ?_
        refine J_st (R_assign rfl) rfl (J_done ?_)
        refine S_ret (E_inB_ret (E_lp_ret (E_inB_ret (E_done1 rfl rfl E ?_))))
        exact eqS_no (by omega) (by omega) (by simpa using hc3)
      · refine S_skip ?_
        refine S_nil (E_inB ?_)
        refine S_reg [true, true, true] rfl rfl ?_
        refine J_st (R_move rfl) rfl (J_st (R_add rfl rfl (add_one hc2n hxs.1)) rfl (J_st (R_assign rfl) rfl (J_done ?_)))
        refine S_nil (E_again (k + 1) (by omega) ⟨rfl, rfl, rfl, rfl, trivial⟩ ⟨E, (by omega), (by omega), eqS_step hp (by assumption) (by omega) (by simpa using hc3)⟩)
    · have hc2n : ¬ k < xs.length := by first | (have h := of_decide_eq_false hc2; omega) | (have h := hc2; simp at h; omega)
      refine S_exit (E_lp_exit (E_inB_exit ?_))
      refine S_seq ?_
      refine S_reg [true] rfl rfl ?_
      refine J_st (R_assign rfl) rfl (J_done ?_)
      refine S_ret (E_done1 rfl rfl E ?_)
      exact eqS_yes hp hc1n (by omega)

set_option maxRecDepth 20000 in
theorem c_toNews (x : News) (w : World)  : Ct Try.prog 49 [.agg (Enc.enc x).toArray] w (fun v _ => v = .agg (Enc.enc x).toArray) := by
  refine ct_of Try.func49 rfl Try.ntmps49 rfl ?_
  refine S_sub [(0, .agg (Enc.enc x).toArray)] ⟨rfl, trivial⟩ ?_
  have E : Ext w w := Ext.refl w
  refine S_seq ?_
  refine S_reg [false, false] rfl rfl ?_
  refine J_box rfl rfl (fun b1 w1 e1 s1 h1 => ?_)
  have g_b1 : w.heap.size ≤ b1 := by have := E.size; omega
  have y_b1 := h1.lt
  replace E := E.trans e1
  have z1 := e1.size
  refine J_alloc st78 rfl (fun b2 w2 e2 s2 h2 => ?_)
  have g_b2 : w.heap.size ≤ b2 := by have := E.size; omega
  have y_b2 := h2.lt
  replace E := E.trans e2; replace h1 := h1.ext e2
  have z2 := e2.size
  refine J_done ?_
  refine S_seq ?_
  refine S_reg [false] rfl rfl ?_
  refine J_alloc st78 rfl (fun b3 w3 e3 s3 h3 => ?_)
  have g_b3 : w.heap.size ≤ b3 := by have := E.size; omega
  have y_b3 := h3.lt
  replace E := E.trans e3; replace h1 := h1.ext e3; replace h2 := h2.ext e3
  have z3 := e3.size
  refine J_done ?_
  refine S_seq ?_
  refine S_reg [true, true, true, false] rfl rfl ?_
  refine J_st (R_fieldAddr0 fl97_0 rfl) rfl (J_st (R_load sc3 rfl (h1.one 0 rfl)) rfl (J_st (R_fieldAddr0 fl78_0 rfl) rfl ?_))
  refine J_store' (cs' := [.int .i64 x.dest, .int .i64 0, .bool false]) sc3 rfl rfl rfl h3 (Nat.le_of_ble_eq_true rfl) rfl (fun w4 m1 h3' => ?_)
  replace h3 := h3'
  replace E := E.step m1 (fun g hg => by cases hg; omega); replace h1 := h1.mod m1 (fun g hg => by cases hg; omega); replace h2 := h2.mod m1 (fun g hg => by cases hg; omega)
  have z4 := m1.size
  refine J_done ?_
  refine S_seq ?_
  refine S_reg [true, true, true, false] rfl rfl ?_
  refine J_st (R_fieldAddr0 fl97_1 rfl) rfl (J_st (R_load sc3 rfl (h1.one 1 rfl)) rfl (J_st (R_fieldAddr0 fl78_1 rfl) rfl ?_))
  refine J_store' (cs' := [.int .i64 x.dest, .int .i64 x.epoch, .bool false]) sc3 rfl rfl rfl h3 (Nat.le_of_ble_eq_true rfl) rfl (fun w5 m2 h3' => ?_)
  replace h3 := h3'
  replace E := E.step m2 (fun g hg => by cases hg; omega); replace h1 := h1.mod m2 (fun g hg => by cases hg; omega); replace h2 := h2.mod m2 (fun g hg => by cases hg; omega)
  have z5 := m2.size
  refine J_done ?_
  refine S_seq ?_
  refine S_reg [true, true, true, false] rfl rfl ?_
  refine J_st (R_fieldAddr0 fl97_2 rfl) rfl (J_st (R_load sc4 rfl (h1.one 2 rfl)) rfl (J_st (R_fieldAddr0 fl78_2 rfl) rfl ?_))
  refine J_store' (cs' := [.int .i64 x.dest, .int .i64 x.epoch, .bool x.capped]) sc4 rfl rfl rfl h3 (Nat.le_of_ble_eq_true rfl) rfl (fun w6 m3 h3' => ?_)
  replace h3 := h3'
  replace E := E.step m3 (fun g hg => by cases hg; omega); replace h1 := h1.mod m3 (fun g hg => by cases hg; omega); replace h2 := h2.mod m3 (fun g hg => by cases hg; omega)
  have z6 := m3.size
  refine J_done ?_
  refine S_seq ?_
  refine S_reg [true, false] rfl rfl ?_
  refine J_st (R_loadS st78 rfl h3.at rfl) rfl ?_
  refine J_storeS' (cs' := [.int .i64 x.dest, .int .i64 x.epoch, .bool x.capped]) st78 rfl rfl rfl rfl h2 (Nat.le_of_ble_eq_true rfl) rfl (fun w7 m4 h2' => ?_)
  replace h2 := h2'
  replace E := E.step m4 (fun g hg => by cases hg; omega); replace h1 := h1.mod m4 (fun g hg => by cases hg; omega); replace h3 := h3.mod m4 (fun g hg => by cases hg; omega)
  have z7 := m4.size
  refine J_done ?_
  refine S_ret (E_doneC rfl rfl (run_loadVar_st st78 h2.at rfl) E ?_)
  rfl

set_option maxRecDepth 20000 in
theorem c_eqNews (x : News) (y : News) (w : World)  : Ct Try.prog 54 [.agg (Enc.enc x).toArray, .agg (Enc.enc y).toArray] w (fun v _ => v = .bool (decide (x = y))) := by
  refine ct_of Try.func54 rfl Try.ntmps54 rfl ?_
  refine S_sub [(0, .agg (Enc.enc x).toArray), (1, .agg (Enc.enc y).toArray)] ⟨rfl, rfl, trivial⟩ ?_
  have E : Ext w w := Ext.refl w
  refine S_seq ?_
  refine S_reg [false, false, true] rfl rfl ?_
  refine J_box rfl rfl (fun b1 w1 e1 s1 h1 => ?_)
  have g_b1 : w.heap.size ≤ b1 := by have := E.size; omega
  have y_b1 := h1.lt
  replace E := E.trans e1
  have z1 := e1.size
  refine J_box rfl rfl (fun b2 w2 e2 s2 h2 => ?_)
  have g_b2 : w.heap.size ≤ b2 := by have := E.size; omega
  have y_b2 := h2.lt
  replace E := E.trans e2; replace h1 := h1.ext e2
  have z2 := e2.size
  refine J_st (R_assign rfl) rfl (J_done ?_)
  refine S_seq ?_
  refine S_seq ?_
  refine S_reg [true, true, true, true, true] rfl rfl ?_
  refine J_st (R_fieldAddr0 fl78_0 rfl) rfl (J_st (R_load sc3 rfl (h1.one 0 rfl)) rfl (J_st (R_fieldAddr0 fl78_0 rfl) rfl (J_st (R_load sc3 rfl (h2.one 0 rfl)) rfl (J_st (R_neq rfl rfl) rfl (J_done ?_)))))
  refine S_cond rfl (fun hc1 => ?_) (fun hc1 => ?_)
  · refine S_seq ?_
    refine S_reg [true] rfl rfl ?_
    refine J_st (R_assign rfl) rfl (J_done ?_)
    refine S_ret (E_done1 rfl rfl E ?_)
    cases x; cases y; simp_all
  · refine S_skip ?_
    refine S_seq ?_
    refine S_seq ?_
    refine S_reg [true, true, true, true, true] rfl rfl ?_
    refine J_st (R_fieldAddr0 fl78_1 rfl) rfl (J_st (R_load sc3 rfl (h1.one 1 rfl)) rfl (J_st (R_fieldAddr0 fl78_1 rfl) rfl (J_st (R_load sc3 rfl (h2.one 1 rfl)) rfl (J_st (R_neq rfl rfl) rfl (J_done ?_)))))
    refine S_cond rfl (fun hc2 => ?_) (fun hc2 => ?_)
    · refine S_seq ?_
      refine S_reg [true] rfl rfl ?_
      refine J_st (R_assign rfl) rfl (J_done ?_)
      refine S_ret (E_done1 rfl rfl E ?_)
      cases x; cases y; simp_all
    · refine S_skip ?_
      refine S_seq ?_
      refine S_seq ?_
      refine S_reg [true, true, true, true, true] rfl rfl ?_
      refine J_st (R_fieldAddr0 fl78_2 rfl) rfl (J_st (R_load sc4 rfl (h1.one 2 rfl)) rfl (J_st (R_fieldAddr0 fl78_2 rfl) rfl (J_st (R_load sc4 rfl (h2.one 2 rfl)) rfl (J_st (R_neqB (Try.underlying4) rfl rfl) rfl (J_done ?_)))))
      refine S_cond rfl (fun hc3 => ?_) (fun hc3 => ?_)
      · refine S_seq ?_
        refine S_reg [true] rfl rfl ?_
        refine J_st (R_assign rfl) rfl (J_done ?_)
        refine S_ret (E_done1 rfl rfl E ?_)
        cases x; cases y; simp_all
      · refine S_skip ?_
        refine S_seq ?_
        refine S_reg [true] rfl rfl ?_
        refine J_st (R_assign rfl) rfl (J_done ?_)
        refine S_ret (E_done1 rfl rfl E ?_)
        cases x; cases y; simp_all

set_option maxRecDepth 20000 in
theorem c_szNewsS (vxs : Value) (xs : List News) (n : Int) (w : World) (hxs : RdS w vxs xs) (h0 : 0 ≤ n ∧ n ≤ 1048576) : Ct Try.prog 19 [vxs, .int .i64 n] w (fun v _ => v = .int .i64 (szM xs.length n)) := by
  refine ct_of Try.func19 rfl Try.ntmps19 rfl ?_
  refine S_sub [(0, vxs), (1, .int .i64 n)] ⟨rfl, rfl, trivial⟩ ?_
  have E : Ext w w := Ext.refl w
  refine S_seq ?_
  refine S_reg [true] rfl rfl ?_
  refine J_st (R_assign rfl) rfl (J_done ?_)
  refine S_seq ?_
  refine S_reg [true, true, true, true, true] rfl rfl ?_
  refine J_st (R_move rfl) rfl (J_st (R_move rfl) rfl (J_st (R_len Try.underlying28 rfl (hxs.ext E).len) rfl (J_st (R_sub rfl rfl rfl) rfl (J_st (R_assign rfl) rfl (J_done ?_)))))
  refine S_seq ?_
  refine S_seq ?_
  refine S_reg [true, true] rfl rfl ?_
  refine J_st (R_move rfl) rfl (J_st (R_lss rfl rfl) rfl (J_done ?_))
  refine S_cond rfl (fun hc1 => ?_) (fun hc1 => ?_)
  · refine S_seq ?_
    refine S_reg [true] rfl rfl ?_
    refine J_st (R_assign rfl) rfl (J_done ?_)
    refine S_ret (E_done1 rfl rfl E ?_)
    exact sz_no h0.2 h0.1 hxs.1 hc1
  · refine S_skip ?_
    refine S_seq ?_
    refine S_reg [true, true] rfl rfl ?_
    refine J_st (R_move rfl) rfl (J_st (R_assign rfl) rfl (J_done ?_))
    refine S_ret (E_done1 rfl rfl E ?_)
    exact sz_yes h0.2 h0.1 hxs.1 hc1

set_option maxRecDepth 20000 in
theorem c_toNewsS (vxs : Value) (xs : List News) (w : World) (hxs : RdS w vxs xs) (hb : xs.length ≤ 1048576) : Ct Try.prog 24 [vxs] w (fun v w' => Own w' w.heap.size w'.heap.size 3 v (List.flatMap (Enc.enc (α := News)) xs)) := by
  refine ct_of Try.func24 rfl Try.ntmps24 rfl ?_
  refine S_sub [(0, vxs)] ⟨rfl, trivial⟩ ?_
  have E : Ext w w := Ext.refl w
  refine S_seq ?_
  refine S_reg [true] rfl rfl ?_
  refine J_st (R_assign rfl) rfl (J_done ?_)
  refine S_seq ?_
  refine S_reg [true, true, false, true] rfl rfl ?_
  refine J_st (R_move rfl) rfl (J_st (R_len Try.underlying28 rfl (hxs.ext E).len) rfl ?_)
  refine J_make (m := xs.length) sl39 rfl rfl (by omega) (by decide) rfl (fun b1 w1 e1 s1 h1 => ?_)
  have g_b1 : w.heap.size ≤ b1 := by have := E.size; omega
  have y_b1 := h1.lt
  replace E := E.trans e1
  have z1 := e1.size
  refine J_st (R_assign rfl) rfl (J_done ?_)
  refine S_seq ?_
  refine S_seq ?_
  refine S_reg [true] rfl rfl ?_
  refine J_st (R_assign rfl) rfl (J_done ?_)
  refine S_block ?_
  refine S_loop (fun (k : Nat) => [(0, vxs), (2, .slice none 0 0), (3, .slice (some ⟨b1, 0, none⟩) xs.length xs.length), (4, .int .i64 ((k : Nat) : Int))]) (fun (k : Nat) w' => Ext w w' ∧ w1.heap.size ≤ w'.heap.size ∧ k ≤ xs.length ∧ Blk w' b1 (mk xs [.int .i64 0, .int .i64 0, .bool false] k xs.length)) (fun (k : Nat) => xs.length - k) 0 ⟨rfl, rfl, rfl, rfl, trivial⟩ ⟨E, Nat.le_refl _, Nat.zero_le _, (mk_zero xs [.int .i64 0, .int .i64 0, .bool false] xs.length) ▸ h1⟩ ?_
  clear E h1
  rintro k w2 ⟨E, z2, hk, h1⟩
  refine S_seq ?_
  refine S_seq ?_
  refine S_reg [true, true, true, true] rfl rfl ?_
  refine J_st (R_move rfl) rfl (J_st (R_move rfl) rfl (J_st (R_len Try.underlying28 rfl (hxs.ext E).len) rfl (J_st (R_lss rfl rfl) rfl (J_done ?_))))
  refine S_cond rfl (fun hc1 => ?_) (fun hc1 => ?_)
  · have hc1n : k < xs.length := by first | (have h := of_decide_eq_true hc1; omega) | (have h := hc1; simp at h; omega)
    refine S_skip ?_
    refine S_seq ?_
    refine S_block ?_
    refine S_reg [true, true, true, true, true, true, false, true, false] rfl rfl ?_
    refine J_st (R_move rfl) rfl (J_st (R_move rfl) rfl (J_st (R_move rfl) rfl (J_st (R_move rfl) rfl ?_)))
    have hi1 : k < xs.length := (by first | assumption | omega)
    refine J_st (R_index (i := k) sl28 rfl rfl (hxs.ext E) hi1) rfl (J_st (R_loadS st97 rfl ((hxs.ext E).get hi1) rfl) rfl ?_)
    refine J_call Try.call49 rfl (c_toNews (xs[k]'hi1) _ ) rfl (fun _ w3 e2 hv => ?_)
    subst hv
    replace E := E.trans e2; replace h1 := h1.ext e2
    have z3 := e2.size
    refine J_st (R_indexB sl39 rfl rfl (by first | assumption | omega)) rfl ?_
    refine J_storeS' (cs' := mk xs [.int .i64 0, .int .i64 0, .bool false] (k + 1) xs.length) st78 rfl rfl rfl rfl h1 (mk_room xs [.int .i64 0, .int .i64 0, .bool false] rfl hc1n hc1n (by rfl)) (mk_step xs [.int .i64 0, .int .i64 0, .bool false] rfl hc1n hc1n) (fun w4 m1 h1' => ?_)
    replace h1 := h1'
    replace E := E.step m1 (fun g hg => by cases hg; omega)
    have z4 := m1.size
    refine J_done ?_
    refine S_nil (E_inB ?_)
    refine S_reg [true, true, true] rfl rfl ?_
    refine J_st (R_move rfl) rfl (J_st (R_add rfl rfl (add_one hc1n hxs.1)) rfl (J_st (R_assign rfl) rfl (J_done ?_)))
    refine S_nil (E_again (k + 1) (by omega) ⟨rfl, rfl, rfl, rfl, trivial⟩ ⟨E, (by omega), (by omega), h1⟩)
  · have hc1n : ¬ k < xs.length := by first | (have h := of_decide_eq_false hc1; omega) | (have h := hc1; simp at h; omega)
    refine S_exit (E_lp_exit (E_inB_exit ?_))
    refine S_seq ?_
    refine S_reg [true, true] rfl rfl ?_
    refine J_st (R_move rfl) rfl (J_st (R_assign rfl) rfl (J_done ?_))
    refine S_ret (E_done1 rfl rfl E ?_)
    obtain rfl : k = xs.length := by omega
    rw [mk_all] at h1
    exact Own.ofBlk h1 (by omega) (by have := h1.lt; omega) (sum_flat xs) hxs.1

set_option maxRecDepth 20000 in
theorem c_eqNewsS (vxs : Value) (xs : List News) (vys : Value) (ys : List News) (w : World) (hxs : RdS w vxs xs) (hys : RdS w vys ys) : Ct Try.prog 29 [vxs, vys] w (fun v _ => v = .bool (decide (xs = ys))) := by
  refine ct_of Try.func29 rfl Try.ntmps29 rfl ?_
  refine S_sub [(0, vxs), (1, vys)] ⟨rfl, rfl, trivial⟩ ?_
  have E : Ext w w := Ext.refl w
  refine S_seq ?_
  refine S_reg [true] rfl rfl ?_
  refine J_st (R_assign rfl) rfl (J_done ?_)
  refine S_seq ?_
  refine S_seq ?_
  refine S_reg [true, true, true, true, true] rfl rfl ?_
  refine J_st (R_move rfl) rfl (J_st (R_len Try.underlying39 rfl (hxs.ext E).len) rfl (J_st (R_move rfl) rfl (J_st (R_len Try.underlying39 rfl (hys.ext E).len) rfl (J_st (R_neq rfl rfl) rfl (J_done ?_)))))
  refine S_cond rfl (fun hc1 => ?_) (fun hc1 => ?_)
  · have hc1n : ¬ xs.length = ys.length := by first | (have h := of_decide_eq_true hc1; omega) | (have h := hc1; simp at h; omega)
    refine S_seq ?_
    refine S_reg [true] rfl rfl ?_
    refine J_st (R_assign rfl) rfl (J_done ?_)
    refine S_ret (E_done1 rfl rfl E ?_)
    simp [eq_len hc1n]
  · have hc1n : xs.length = ys.length := by first | (have h := of_decide_eq_false hc1; omega) | (have h := hc1; simp at h; omega)
    refine S_skip ?_
    refine S_seq ?_
    refine S_seq ?_
    refine S_reg [true] rfl rfl ?_
    refine J_st (R_assign rfl) rfl (J_done ?_)
    refine S_block ?_
    refine S_loop (fun (k : Nat) => [(0, vxs), (1, vys), (4, .bool false), (5, .int .i64 ((k : Nat) : Int))]) (fun (k : Nat) w' => Ext w w' ∧ w.heap.size ≤ w'.heap.size ∧ k ≤ xs.length ∧ xs.take k = ys.take k) (fun (k : Nat) => xs.length - k) 0 ⟨rfl, rfl, rfl, rfl, trivial⟩ ⟨E, Nat.le_refl _, Nat.zero_le _, rfl⟩ ?_
    clear E
    rintro k w1 ⟨E, z1, hk, hp⟩
    refine S_seq ?_
    refine S_seq ?_
    refine S_reg [true, true, true, true] rfl rfl ?_
    refine J_st (R_move rfl) rfl (J_st (R_move rfl) rfl (J_st (R_len Try.underlying39 rfl (hxs.ext E).len) rfl (J_st (R_lss rfl rfl) rfl (J_done ?_))))
    refine S_cond rfl (fun hc2 => ?_) (fun hc2 => ?_)
    · have hc2n : k < xs.length := by first | (have h := of_decide_eq_true hc2; omega) | (have h := hc2; simp at h; omega)
      refine S_skip ?_
      refine S_seq ?_
      refine S_block ?_
      refine S_seq ?_
      refine S_regD mixed [(0, true), (1, true), (2, true), (3, true), (4, true), (5, true), (6, true), (7, true), (8, false), (9, true)] (by decide +kernel) rfl (fun w2 e1 => ?_)
      replace E := E.trans e1
      have z2 := e1.size
      refine J_st (R_move rfl) rfl (J_st (R_move rfl) rfl ?_)
      have hi1 : k < xs.length := (by first | assumption | omega)
      refine J_st (R_index (i := k) sl39 rfl rfl (hxs.ext E) hi1) rfl (J_st (R_loadS st78 rfl ((hxs.ext E).get hi1) rfl) rfl (J_st (R_move rfl) rfl (J_st (R_move rfl) rfl ?_)))
      have hi2 : k < ys.length := (by first | assumption | omega)
      refine J_st (R_index (i := k) sl39 rfl rfl (hys.ext E) hi2) rfl (J_st (R_loadS st78 rfl ((hys.ext E).get hi2) rfl) rfl ?_)
      refine J_call Try.call54 rfl (c_eqNews (xs[k]'hi1) (ys[k]'hi2) _ ) rfl (fun _ w3 e2 hv => ?_)
      subst hv
      replace E := E.trans e2
      have z3 := e2.size
      refine J_st (R_not rfl) rfl (J_done ?_)
      refine S_cond rfl (fun hc3 => ?_) (fun hc3 => ?_)
      · refine S_seq ?_
        refine S_reg [true] rfl rfl ?_
        refine J_st (R_assign rfl) rfl (J_done ?_)
        refine S_ret (E_inB_ret (E_lp_ret (E_inB_ret (E_done1 rfl rfl E ?_))))
        exact eqS_no (by omega) (by omega) (by simpa using hc3)
      · refine S_skip ?_
        refine S_nil (E_inB ?_)
        refine S_reg [true, true, true] rfl rfl ?_
        refine J_st (R_move rfl) rfl (J_st (R_add rfl rfl (add_one hc2n hxs.1)) rfl (J_st (R_assign rfl) rfl (J_done ?_)))
        refine S_nil (E_again (k + 1) (by omega) ⟨rfl, rfl, rfl, rfl, trivial⟩ ⟨E, (by omega), (by omega), eqS_step hp (by assumption) (by omega) (by simpa using hc3)⟩)
    · have hc2n : ¬ k < xs.length := by first | (have h := of_decide_eq_false hc2; omega) | (have h := hc2; simp at h; omega)
      refine S_exit (E_lp_exit (E_inB_exit ?_))
      refine S_seq ?_
      refine S_reg [true] rfl rfl ?_
      refine J_st (R_assign rfl) rfl (J_done ?_)
      refine S_ret (E_done1 rfl rfl E ?_)
      exact eqS_yes hp hc1n (by omega)

set_option maxRecDepth 20000 in
theorem c_szLink (cx : List Value) (x : Link) (n : Int) (w : World) (hx : Dat.R w 0 w.heap.size cx x) (h0 : 0 ≤ n ∧ n ≤ 1048576) : Ct Try.prog 44 [.agg cx.toArray, .int .i64 n] w (fun v _ => v = .int .i64 (szM (cntLink x) n)) := by
  refine ct_of Try.func44 rfl Try.ntmps44 rfl ?_
  obtain ⟨o1, rfl, hd1⟩ := Link.op hx
  refine S_sub [(0, .agg [.int .i64 x.cap, o1, .int .i64 x.credits, .int .i64 x.back, .int .i64 x.sent, .int .i64 x.got].toArray), (1, .int .i64 n)] ⟨rfl, rfl, trivial⟩ ?_
  have E : Ext w w := Ext.refl w
  refine S_seq ?_
  refine S_reg [false, true] rfl rfl ?_
  refine J_box rfl rfl (fun b1 w1 e1 s1 h1 => ?_)
  have g_b1 : w.heap.size ≤ b1 := by have := E.size; omega
  have y_b1 := h1.lt
  replace E := E.trans e1
  have z1 := e1.size
  refine J_st (R_assign rfl) rfl (J_done ?_)
  refine S_seq ?_
  refine S_reg [true, true, true, false, true] rfl rfl ?_
  refine J_st (R_fieldAddr0 fl90_1 rfl) rfl (J_st (R_load sc83 rfl (h1.one 1 rfl)) rfl (J_st (R_move rfl) rfl ?_))
  refine J_call Try.call67 rfl (c_szRecordS o1 x.queue n _ (hd1.rd.ext E) (by first | omega | (simp only [mkL_length]; omega) | (rw [mkL_length]))) rfl (fun _ w2 e2 hv => ?_)
  subst hv
  replace E := E.trans e2; replace h1 := h1.ext e2
  have z2 := e2.size
  refine J_st (R_assign rfl) rfl (J_done ?_)
  refine S_seq ?_
  refine S_seq ?_
  refine S_reg [true, true] rfl rfl ?_
  refine J_st (R_move rfl) rfl (J_st (R_lss rfl rfl) rfl (J_done ?_))
  refine S_cond rfl (fun hc1 => ?_) (fun hc1 => ?_)
  · have q1 := szM_no hc1 (by omega)
    refine S_seq ?_
    refine S_reg [true] rfl rfl ?_
    refine J_st (R_assign rfl) rfl (J_done ?_)
    refine S_ret (E_done1 rfl rfl E ?_)
    first | exact sz_neg (by unfold cntLink; omega) | exact sz_fin (by unfold cntLink; omega) (by unfold cntLink; omega)
  · have q2 := szM_ok hc1 (by omega)
    refine S_skip ?_
    refine S_seq ?_
    refine S_reg [true, true] rfl rfl ?_
    refine J_st (R_move rfl) rfl (J_st (R_assign rfl) rfl (J_done ?_))
    refine S_ret (E_done1 rfl rfl E ?_)
    first | exact sz_neg (by unfold cntLink; omega) | exact sz_fin (by unfold cntLink; omega) (by unfold cntLink; omega)

set_option maxRecDepth 20000 in
theorem c_toLink (cx : List Value) (x : Link) (w : World) (hx : Dat.R w 0 w.heap.size cx x) (hb : cntLink x ≤ 1048576) : Ct Try.prog 47 [.agg cx.toArray] w (fun v w' => ∃ cs, v = .agg cs.toArray ∧ Own1.O w' w.heap.size w'.heap.size cs x) := by
  unfold cntLink at hb
  refine ct_of Try.func47 rfl Try.ntmps47 rfl ?_
  obtain ⟨o1, rfl, hd1⟩ := Link.op hx
  refine S_sub [(0, .agg [.int .i64 x.cap, o1, .int .i64 x.credits, .int .i64 x.back, .int .i64 x.sent, .int .i64 x.got].toArray)] ⟨rfl, trivial⟩ ?_
  have E : Ext w w := Ext.refl w
  refine S_seq ?_
  refine S_reg [false, false] rfl rfl ?_
  refine J_box rfl rfl (fun b1 w1 e1 s1 h1 => ?_)
  have g_b1 : w.heap.size ≤ b1 := by have := E.size; omega
  have y_b1 := h1.lt
  replace E := E.trans e1
  have z1 := e1.size
  refine J_alloc st76 rfl (fun b2 w2 e2 s2 h2 => ?_)
  have g_b2 : w.heap.size ≤ b2 := by have := E.size; omega
  have y_b2 := h2.lt
  replace E := E.trans e2; replace h1 := h1.ext e2
  have z2 := e2.size
  refine J_done ?_
  refine S_seq ?_
  refine S_reg [false] rfl rfl ?_
  refine J_alloc st76 rfl (fun b3 w3 e3 s3 h3 => ?_)
  have g_b3 : w.heap.size ≤ b3 := by have := E.size; omega
  have y_b3 := h3.lt
  replace E := E.trans e3; replace h1 := h1.ext e3; replace h2 := h2.ext e3
  have z3 := e3.size
  refine J_done ?_
  refine S_seq ?_
  refine S_reg [true, true, true, false] rfl rfl ?_
  refine J_st (R_fieldAddr0 fl90_0 rfl) rfl (J_st (R_load sc3 rfl (h1.one 0 rfl)) rfl (J_st (R_fieldAddr0 fl76_0 rfl) rfl ?_))
  refine J_store' (cs' := [.int .i64 x.cap, .slice none 0 0, .int .i64 0, .int .i64 0, .int .i64 0, .int .i64 0]) sc3 rfl rfl rfl h3 (Nat.le_of_ble_eq_true rfl) rfl (fun w4 m1 h3' => ?_)
  replace h3 := h3'
  replace E := E.step m1 (fun g hg => by cases hg; omega); replace h1 := h1.mod m1 (fun g hg => by cases hg; omega); replace h2 := h2.mod m1 (fun g hg => by cases hg; omega)
  have z4 := m1.size
  refine J_done ?_
  refine S_seq ?_
  refine S_reg [true, true, false, true, false] rfl rfl ?_
  refine J_st (R_fieldAddr0 fl90_1 rfl) rfl (J_st (R_load sc83 rfl (h1.one 1 rfl)) rfl ?_)
  refine J_call Try.call73 rfl (c_toRecordS o1 x.queue _ (hd1.rd.ext E) (by first | omega | (simp only [mkL_length]; omega) | (rw [mkL_length]))) rfl (fun v1 w5 e4 ho1 => ?_)
  have g_ho1 : w.heap.size ≤ w4.heap.size := E.size
  replace E := E.trans e4; replace h1 := h1.ext e4; replace h2 := h2.ext e4; replace h3 := h3.ext e4
  have z5 := e4.size
  refine J_st (R_fieldAddr0 fl76_1 rfl) rfl ?_
  refine J_store' (cs' := [.int .i64 x.cap, v1, .int .i64 0, .int .i64 0, .int .i64 0, .int .i64 0]) sc66 rfl rfl ho1.one h3 (Nat.le_of_ble_eq_true rfl) rfl (fun w6 m2 h3' => ?_)
  replace h3 := h3'
  replace E := E.step m2 (fun g hg => by cases hg; omega); replace h1 := h1.mod m2 (fun g hg => by cases hg; omega); replace h2 := h2.mod m2 (fun g hg => by cases hg; omega); replace ho1 := ho1.mod m2 (fun g hg => by cases hg; omega)
  have z6 := m2.size
  refine J_done ?_
  refine S_seq ?_
  refine S_reg [true, true, true, false] rfl rfl ?_
  refine J_st (R_fieldAddr0 fl90_2 rfl) rfl (J_st (R_load sc3 rfl (h1.one 2 rfl)) rfl (J_st (R_fieldAddr0 fl76_2 rfl) rfl ?_))
  refine J_store' (cs' := [.int .i64 x.cap, v1, .int .i64 x.credits, .int .i64 0, .int .i64 0, .int .i64 0]) sc3 rfl rfl rfl h3 (Nat.le_of_ble_eq_true rfl) rfl (fun w7 m3 h3' => ?_)
  replace h3 := h3'
  replace E := E.step m3 (fun g hg => by cases hg; omega); replace h1 := h1.mod m3 (fun g hg => by cases hg; omega); replace h2 := h2.mod m3 (fun g hg => by cases hg; omega); replace ho1 := ho1.mod m3 (fun g hg => by cases hg; omega)
  have z7 := m3.size
  refine J_done ?_
  refine S_seq ?_
  refine S_reg [true, true, true, false] rfl rfl ?_
  refine J_st (R_fieldAddr0 fl90_3 rfl) rfl (J_st (R_load sc3 rfl (h1.one 3 rfl)) rfl (J_st (R_fieldAddr0 fl76_3 rfl) rfl ?_))
  refine J_store' (cs' := [.int .i64 x.cap, v1, .int .i64 x.credits, .int .i64 x.back, .int .i64 0, .int .i64 0]) sc3 rfl rfl rfl h3 (Nat.le_of_ble_eq_true rfl) rfl (fun w8 m4 h3' => ?_)
  replace h3 := h3'
  replace E := E.step m4 (fun g hg => by cases hg; omega); replace h1 := h1.mod m4 (fun g hg => by cases hg; omega); replace h2 := h2.mod m4 (fun g hg => by cases hg; omega); replace ho1 := ho1.mod m4 (fun g hg => by cases hg; omega)
  have z8 := m4.size
  refine J_done ?_
  refine S_seq ?_
  refine S_reg [true, true, true, false] rfl rfl ?_
  refine J_st (R_fieldAddr0 fl90_4 rfl) rfl (J_st (R_load sc3 rfl (h1.one 4 rfl)) rfl (J_st (R_fieldAddr0 fl76_4 rfl) rfl ?_))
  refine J_store' (cs' := [.int .i64 x.cap, v1, .int .i64 x.credits, .int .i64 x.back, .int .i64 x.sent, .int .i64 0]) sc3 rfl rfl rfl h3 (Nat.le_of_ble_eq_true rfl) rfl (fun w9 m5 h3' => ?_)
  replace h3 := h3'
  replace E := E.step m5 (fun g hg => by cases hg; omega); replace h1 := h1.mod m5 (fun g hg => by cases hg; omega); replace h2 := h2.mod m5 (fun g hg => by cases hg; omega); replace ho1 := ho1.mod m5 (fun g hg => by cases hg; omega)
  have z9 := m5.size
  refine J_done ?_
  refine S_seq ?_
  refine S_reg [true, true, true, false] rfl rfl ?_
  refine J_st (R_fieldAddr0 fl90_5 rfl) rfl (J_st (R_load sc3 rfl (h1.one 5 rfl)) rfl (J_st (R_fieldAddr0 fl76_5 rfl) rfl ?_))
  refine J_store' (cs' := [.int .i64 x.cap, v1, .int .i64 x.credits, .int .i64 x.back, .int .i64 x.sent, .int .i64 x.got]) sc3 rfl rfl rfl h3 (Nat.le_of_ble_eq_true rfl) rfl (fun w10 m6 h3' => ?_)
  replace h3 := h3'
  replace E := E.step m6 (fun g hg => by cases hg; omega); replace h1 := h1.mod m6 (fun g hg => by cases hg; omega); replace h2 := h2.mod m6 (fun g hg => by cases hg; omega); replace ho1 := ho1.mod m6 (fun g hg => by cases hg; omega)
  have z10 := m6.size
  refine J_done ?_
  refine S_seq ?_
  refine S_reg [true, false] rfl rfl ?_
  refine J_st (R_loadS st76 rfl h3.at rfl) rfl ?_
  refine J_storeS' (cs' := [.int .i64 x.cap, v1, .int .i64 x.credits, .int .i64 x.back, .int .i64 x.sent, .int .i64 x.got]) st76 rfl rfl rfl (all_cons rfl (all_cons ho1.one (all_cons rfl (all_cons rfl (all_cons rfl (all_cons rfl rfl)))))) h2 (Nat.le_of_ble_eq_true rfl) rfl (fun w11 m7 h2' => ?_)
  replace h2 := h2'
  replace E := E.step m7 (fun g hg => by cases hg; omega); replace h1 := h1.mod m7 (fun g hg => by cases hg; omega); replace h3 := h3.mod m7 (fun g hg => by cases hg; omega); replace ho1 := ho1.mod m7 (fun g hg => by cases hg; omega)
  have z11 := m7.size
  refine J_done ?_
  refine S_ret (E_doneC rfl rfl (run_loadVar_st st76 h2.at rfl) E ?_)
  exact ⟨_, rfl, Link.mkO x ⟨trivial, trivial⟩ (Own.widen ho1 (by omega) (by omega))⟩

set_option maxRecDepth 20000 in
theorem c_eqLink (cx : List Value) (x : Link) (cy : List Value) (y : Link) (w : World) (hx : Dat.R w 0 w.heap.size cx x) (hy : Dat.R w 0 w.heap.size cy y) : Ct Try.prog 52 [.agg cx.toArray, .agg cy.toArray] w (fun v _ => v = .bool (decide (x = y))) := by
  refine ct_of Try.func52 rfl Try.ntmps52 rfl ?_
  obtain ⟨o1, rfl, hd1⟩ := Link.op hx
  obtain ⟨o2, rfl, hd2⟩ := Link.op hy
  refine S_sub [(0, .agg [.int .i64 x.cap, o1, .int .i64 x.credits, .int .i64 x.back, .int .i64 x.sent, .int .i64 x.got].toArray), (1, .agg [.int .i64 y.cap, o2, .int .i64 y.credits, .int .i64 y.back, .int .i64 y.sent, .int .i64 y.got].toArray)] ⟨rfl, rfl, trivial⟩ ?_
  have E : Ext w w := Ext.refl w
  refine S_seq ?_
  refine S_reg [false, false, true] rfl rfl ?_
  refine J_box rfl rfl (fun b1 w1 e1 s1 h1 => ?_)
  have g_b1 : w.heap.size ≤ b1 := by have := E.size; omega
  have y_b1 := h1.lt
  replace E := E.trans e1
  have z1 := e1.size
  refine J_box rfl rfl (fun b2 w2 e2 s2 h2 => ?_)
  have g_b2 : w.heap.size ≤ b2 := by have := E.size; omega
  have y_b2 := h2.lt
  replace E := E.trans e2; replace h1 := h1.ext e2
  have z2 := e2.size
  refine J_st (R_assign rfl) rfl (J_done ?_)
  refine S_seq ?_
  refine S_seq ?_
  refine S_reg [true, true, true, true, true] rfl rfl ?_
  refine J_st (R_fieldAddr0 fl76_0 rfl) rfl (J_st (R_load sc3 rfl (h1.one 0 rfl)) rfl (J_st (R_fieldAddr0 fl76_0 rfl) rfl (J_st (R_load sc3 rfl (h2.one 0 rfl)) rfl (J_st (R_neq rfl rfl) rfl (J_done ?_)))))
  refine S_cond rfl (fun hc1 => ?_) (fun hc1 => ?_)
  · refine S_seq ?_
    refine S_reg [true] rfl rfl ?_
    refine J_st (R_assign rfl) rfl (J_done ?_)
    refine S_ret (E_done1 rfl rfl E ?_)
    cases x; cases y; simp_all
  · refine S_skip ?_
    refine S_seq ?_
    refine S_seq ?_
    refine S_reg [true, true, true, true, false, true] rfl rfl ?_
    refine J_st (R_fieldAddr0 fl76_1 rfl) rfl (J_st (R_load sc66 rfl (h1.one 1 rfl)) rfl (J_st (R_fieldAddr0 fl76_1 rfl) rfl (J_st (R_load sc66 rfl (h2.one 1 rfl)) rfl ?_)))
    refine J_call Try.call79 rfl (c_eqRecordS o1 x.queue o2 y.queue _ (hd1.rd.ext E) (hd2.rd.ext E)) rfl (fun _ w3 e3 hv => ?_)
    subst hv
    replace E := E.trans e3; replace h1 := h1.ext e3; replace h2 := h2.ext e3
    have z3 := e3.size
    refine J_st (R_not rfl) rfl (J_done ?_)
    refine S_cond rfl (fun hc2 => ?_) (fun hc2 => ?_)
    · refine S_seq ?_
      refine S_reg [true] rfl rfl ?_
      refine J_st (R_assign rfl) rfl (J_done ?_)
      refine S_ret (E_done1 rfl rfl E ?_)
      cases x; cases y; simp_all
    · refine S_skip ?_
      refine S_seq ?_
      refine S_seq ?_
      refine S_reg [true, true, true, true, true] rfl rfl ?_
      refine J_st (R_fieldAddr0 fl76_2 rfl) rfl (J_st (R_load sc3 rfl (h1.one 2 rfl)) rfl (J_st (R_fieldAddr0 fl76_2 rfl) rfl (J_st (R_load sc3 rfl (h2.one 2 rfl)) rfl (J_st (R_neq rfl rfl) rfl (J_done ?_)))))
      refine S_cond rfl (fun hc3 => ?_) (fun hc3 => ?_)
      · refine S_seq ?_
        refine S_reg [true] rfl rfl ?_
        refine J_st (R_assign rfl) rfl (J_done ?_)
        refine S_ret (E_done1 rfl rfl E ?_)
        cases x; cases y; simp_all
      · refine S_skip ?_
        refine S_seq ?_
        refine S_seq ?_
        refine S_reg [true, true, true, true, true] rfl rfl ?_
        refine J_st (R_fieldAddr0 fl76_3 rfl) rfl (J_st (R_load sc3 rfl (h1.one 3 rfl)) rfl (J_st (R_fieldAddr0 fl76_3 rfl) rfl (J_st (R_load sc3 rfl (h2.one 3 rfl)) rfl (J_st (R_neq rfl rfl) rfl (J_done ?_)))))
        refine S_cond rfl (fun hc4 => ?_) (fun hc4 => ?_)
        · refine S_seq ?_
          refine S_reg [true] rfl rfl ?_
          refine J_st (R_assign rfl) rfl (J_done ?_)
          refine S_ret (E_done1 rfl rfl E ?_)
          cases x; cases y; simp_all
        · refine S_skip ?_
          refine S_seq ?_
          refine S_seq ?_
          refine S_reg [true, true, true, true, true] rfl rfl ?_
          refine J_st (R_fieldAddr0 fl76_4 rfl) rfl (J_st (R_load sc3 rfl (h1.one 4 rfl)) rfl (J_st (R_fieldAddr0 fl76_4 rfl) rfl (J_st (R_load sc3 rfl (h2.one 4 rfl)) rfl (J_st (R_neq rfl rfl) rfl (J_done ?_)))))
          refine S_cond rfl (fun hc5 => ?_) (fun hc5 => ?_)
          · refine S_seq ?_
            refine S_reg [true] rfl rfl ?_
            refine J_st (R_assign rfl) rfl (J_done ?_)
            refine S_ret (E_done1 rfl rfl E ?_)
            cases x; cases y; simp_all
          · refine S_skip ?_
            refine S_seq ?_
            refine S_seq ?_
            refine S_reg [true, true, true, true, true] rfl rfl ?_
            refine J_st (R_fieldAddr0 fl76_5 rfl) rfl (J_st (R_load sc3 rfl (h1.one 5 rfl)) rfl (J_st (R_fieldAddr0 fl76_5 rfl) rfl (J_st (R_load sc3 rfl (h2.one 5 rfl)) rfl (J_st (R_neq rfl rfl) rfl (J_done ?_)))))
            refine S_cond rfl (fun hc6 => ?_) (fun hc6 => ?_)
            · refine S_seq ?_
              refine S_reg [true] rfl rfl ?_
              refine J_st (R_assign rfl) rfl (J_done ?_)
              refine S_ret (E_done1 rfl rfl E ?_)
              cases x; cases y; simp_all
            · refine S_skip ?_
              refine S_seq ?_
              refine S_reg [true] rfl rfl ?_
              refine J_st (R_assign rfl) rfl (J_done ?_)
              refine S_ret (E_done1 rfl rfl E ?_)
              cases x; cases y; simp_all

set_option maxRecDepth 20000 in
theorem c_szLinkS (vxs : Value) (xs : List Link) (n : Int) (w : World) (hxs : RdD w 0 w.heap.size vxs xs) (h0 : 0 ≤ n ∧ n ≤ 1048576) : Ct Try.prog 17 [vxs, .int .i64 n] w (fun v _ => v = .int .i64 (szM (cntL cntLink xs) n)) := by
  have hlm := hxs.1.1
  unfold maxLen at hlm
  refine ct_of Try.func17 rfl Try.ntmps17 rfl ?_
  refine S_sub [(0, vxs), (1, .int .i64 n)] ⟨rfl, rfl, trivial⟩ ?_
  have E : Ext w w := Ext.refl w
  refine S_seq ?_
  refine S_reg [true] rfl rfl ?_
  refine J_st (R_assign rfl) rfl (J_done ?_)
  refine S_seq ?_
  refine S_reg [true, true, true, true, true] rfl rfl ?_
  refine J_st (R_move rfl) rfl (J_st (R_move rfl) rfl (J_st (R_len Try.underlying26 rfl (hxs.ext E).len) rfl (J_st (R_sub rfl rfl (wrap_in (by omega) (by omega))) rfl (J_st (R_assign rfl) rfl (J_done ?_)))))
  refine S_seq ?_
  refine S_seq ?_
  refine S_reg [true, true] rfl rfl ?_
  refine J_st (R_move rfl) rfl (J_st (R_lss rfl rfl) rfl (J_done ?_))
  refine S_cond rfl (fun hc1 => ?_) (fun hc1 => ?_)
  · refine S_seq ?_
    refine S_reg [true] rfl rfl ?_
    refine J_st (R_assign rfl) rfl (J_done ?_)
    refine S_ret (E_done1 rfl rfl E ?_)
    exact sz_neg (by have := of_decide_eq_true hc1; unfold cntL; omega)
  · refine S_skip ?_
    refine S_seq ?_
    refine S_seq ?_
    refine S_reg [true] rfl rfl ?_
    refine J_st (R_assign rfl) rfl (J_done ?_)
    refine S_block ?_
    refine S_loop (fun (xq : Nat × Int) => let ⟨k, l⟩ := xq; [(0, vxs), (1, .int .i64 l), (4, .int .i64 0), (5, .int .i64 ((k : Nat) : Int))]) (fun (xq : Nat × Int) w' => let ⟨k, l⟩ := xq; Ext w w' ∧ w.heap.size ≤ w'.heap.size ∧ k ≤ xs.length ∧ 0 ≤ l ∧ l ≤ 1048576 ∧ l = n - ((xs.length : Nat) : Int) - ((((xs.take k).map cntLink).sum : Nat) : Int)) (fun (xq : Nat × Int) => let ⟨k, l⟩ := xq; xs.length - k) (0, n - ((xs.length : Nat) : Int)) ⟨rfl, rfl, rfl, rfl, trivial⟩ ⟨E, Nat.le_refl _, Nat.zero_le _, (by have := of_decide_eq_false hc1; simp; omega)⟩ ?_
    clear E
    rintro ⟨k, l⟩ w1 ⟨E, z1, hk, hl⟩
    refine S_sub [(0, vxs), (1, .int .i64 l), (4, .int .i64 0), (5, .int .i64 ((k : Nat) : Int))] ⟨rfl, rfl, rfl, rfl, trivial⟩ ?_
    refine S_seq ?_
    refine S_seq ?_
    refine S_reg [true, true, true, true] rfl rfl ?_
    refine J_st (R_move rfl) rfl (J_st (R_move rfl) rfl (J_st (R_len Try.underlying26 rfl (hxs.ext E).len) rfl (J_st (R_lss rfl rfl) rfl (J_done ?_))))
    refine S_cond rfl (fun hc2 => ?_) (fun hc2 => ?_)
    · have hc2n : k < xs.length := by first | (have h := of_decide_eq_true hc2; omega) | (have h := hc2; simp at h; omega)
      refine S_skip ?_
      refine S_seq ?_
      refine S_block ?_
      refine S_seq ?_
      refine S_reg [true, true, true, true, true, false, true] rfl rfl ?_
      refine J_st (R_move rfl) rfl (J_st (R_move rfl) rfl ?_)
      have hi1 : k < xs.length := (by first | assumption | omega)
      obtain ⟨_, hr1, ha1⟩ := RdD.get hxs hi1
      obtain ⟨o1, rfl, hd1⟩ := Link.op hr1
      replace ha1 : At w (sblk vxs) (soff vxs + k * 6) [.int .i64 ((xs[k]'hi1).cap), o1, .int .i64 ((xs[k]'hi1).credits), .int .i64 ((xs[k]'hi1).back), .int .i64 ((xs[k]'hi1).sent), .int .i64 ((xs[k]'hi1).got)] := ha1
      refine J_st (R_index (i := k) sl26 rfl rfl (hxs.ext E).1 hi1) rfl (J_st (R_loadS st90 rfl (ha1.ext E) rfl) rfl (J_st (R_move rfl) rfl ?_))
      refine J_call Try.call44 rfl (c_szLink [.int .i64 ((xs[k]'hi1).cap), o1, .int .i64 ((xs[k]'hi1).credits), .int .i64 ((xs[k]'hi1).back), .int .i64 ((xs[k]'hi1).sent), .int .i64 ((xs[k]'hi1).got)] (xs[k]'hi1) l _ (Link.mkR (xs[k]'hi1) (RdD.any (hd1.ext E))) (by first | omega | (simp only [mkL_length]; omega) | (rw [mkL_length]))) rfl (fun _ w2 e1 hv => ?_)
      subst hv
      replace E := E.trans e1
      have z2 := e1.size
      refine J_st (R_assign rfl) rfl (J_done ?_)
      refine S_seq ?_
      refine S_reg [true, true] rfl rfl ?_
      refine J_st (R_move rfl) rfl (J_st (R_lss rfl rfl) rfl (J_done ?_))
      refine S_cond rfl (fun hc3 => ?_) (fun hc3 => ?_)
      · have q1 := szM_no hc3 (by omega)
        refine S_seq ?_
        refine S_reg [true] rfl rfl ?_
        refine J_st (R_assign rfl) rfl (J_done ?_)
        refine S_ret (E_inB_ret (E_lp_ret (E_inB_ret (E_done1 rfl rfl E ?_))))
        exact sz_neg (by have := sum_le (f := cntLink) (show k < xs.length by omega); unfold cntL; omega)
      · have q2 := szM_ok hc3 (by omega)
        refine S_skip ?_
        refine S_nil (E_inB ?_)
        refine S_reg [true, true, true] rfl rfl ?_
        refine J_st (R_move rfl) rfl (J_st (R_add rfl rfl (add_one hc2n (hxs.ext E).1.1)) rfl (J_st (R_assign rfl) rfl (J_done ?_)))
        refine S_nil (E_again (k + 1, szM (cntLink (xs[k]'hi1)) l) (by simp; omega) ⟨rfl, rfl, rfl, rfl, trivial⟩ ⟨E, (by omega), (by omega), (by have := sum_step (f := cntLink) (show k < xs.length by omega); omega)⟩)
    · have hc2n : ¬ k < xs.length := by first | (have h := of_decide_eq_false hc2; omega) | (have h := hc2; simp at h; omega)
      refine S_exit (E_lp_exit (E_inB_exit ?_))
      refine S_seq ?_
      refine S_reg [true, true] rfl rfl ?_
      refine J_st (R_move rfl) rfl (J_st (R_assign rfl) rfl (J_done ?_))
      refine S_ret (E_done1 rfl rfl E ?_)
      have := sum_all (f := cntLink) (show xs.length ≤ k by omega); exact sz_fin (by unfold cntL; omega) (by unfold cntL; omega)

set_option maxRecDepth 20000 in
theorem c_toLinkS (vxs : Value) (xs : List Link) (w : World) (hxs : RdD w 0 w.heap.size vxs xs) (hb : cntL cntLink xs ≤ 1048576) : Ct Try.prog 22 [vxs] w (fun v w' => OwS (α := Link) w' w.heap.size w'.heap.size v xs) := by
  unfold cntL at hb
  refine ct_of Try.func22 rfl Try.ntmps22 rfl ?_
  refine S_sub [(0, vxs)] ⟨rfl, trivial⟩ ?_
  have E : Ext w w := Ext.refl w
  refine S_seq ?_
  refine S_reg [true] rfl rfl ?_
  refine J_st (R_assign rfl) rfl (J_done ?_)
  refine S_seq ?_
  refine S_reg [true, true, false, true] rfl rfl ?_
  refine J_st (R_move rfl) rfl (J_st (R_len Try.underlying26 rfl (hxs.ext E).len) rfl ?_)
  refine J_make (m := xs.length) sl37 rfl rfl (by omega) (by decide) rfl (fun b1 w1 e1 s1 h1 => ?_)
  have g_b1 : w.heap.size ≤ b1 := by have := E.size; omega
  have y_b1 := h1.lt
  replace E := E.trans e1
  have z1 := e1.size
  refine J_st (R_assign rfl) rfl (J_done ?_)
  refine S_seq ?_
  refine S_seq ?_
  refine S_reg [true] rfl rfl ?_
  refine J_st (R_assign rfl) rfl (J_done ?_)
  refine S_block ?_
  refine S_loop (fun (xq : Nat × List (List Value)) => let ⟨k, css⟩ := xq; [(0, vxs), (2, .slice none 0 0), (3, .slice (some ⟨b1, 0, none⟩) xs.length xs.length), (4, .int .i64 ((k : Nat) : Int))]) (fun (xq : Nat × List (List Value)) w' => let ⟨k, css⟩ := xq; Ext w w' ∧ w1.heap.size ≤ w'.heap.size ∧ k ≤ xs.length ∧ css.length = k ∧ Blk w' b1 (mkc css [.int .i64 0, .slice none 0 0, .int .i64 0, .int .i64 0, .int .i64 0, .int .i64 0] (xs.length - k)) ∧ AllO w' w1.heap.size w'.heap.size css (xs.take k)) (fun (xq : Nat × List (List Value)) => let ⟨k, css⟩ := xq; xs.length - k) (0, []) ⟨rfl, rfl, rfl, rfl, trivial⟩ ⟨E, Nat.le_refl _, Nat.zero_le _, rfl, (by simpa [mkc] using h1), (by simp [AllO, All2])⟩ ?_
  clear E h1
  rintro ⟨k, css⟩ w2 ⟨E, z2, hk, hlk, h1, hA⟩
  refine S_sub [(0, vxs), (2, .slice none 0 0), (3, .slice (some ⟨b1, 0, none⟩) xs.length xs.length), (4, .int .i64 ((k : Nat) : Int))] ⟨rfl, rfl, rfl, rfl, trivial⟩ ?_
  refine S_seq ?_
  refine S_seq ?_
  refine S_reg [true, true, true, true] rfl rfl ?_
  refine J_st (R_move rfl) rfl (J_st (R_move rfl) rfl (J_st (R_len Try.underlying26 rfl (hxs.ext E).len) rfl (J_st (R_lss rfl rfl) rfl (J_done ?_))))
  refine S_cond rfl (fun hc1 => ?_) (fun hc1 => ?_)
  · have hc1n : k < xs.length := by first | (have h := of_decide_eq_true hc1; omega) | (have h := hc1; simp at h; omega)
    refine S_skip ?_
    refine S_seq ?_
    refine S_block ?_
    refine S_reg [true, true, true, true, true, true, false, true, false] rfl rfl ?_
    refine J_st (R_move rfl) rfl (J_st (R_move rfl) rfl (J_st (R_move rfl) rfl (J_st (R_move rfl) rfl ?_)))
    have hi1 : k < xs.length := (by first | assumption | omega)
    obtain ⟨_, hr1, ha1⟩ := RdD.get hxs hi1
    obtain ⟨o1, rfl, hd1⟩ := Link.op hr1
    replace ha1 : At w (sblk vxs) (soff vxs + k * 6) [.int .i64 ((xs[k]'hi1).cap), o1, .int .i64 ((xs[k]'hi1).credits), .int .i64 ((xs[k]'hi1).back), .int .i64 ((xs[k]'hi1).sent), .int .i64 ((xs[k]'hi1).got)] := ha1
    refine J_st (R_index (i := k) sl26 rfl rfl (hxs.ext E).1 hi1) rfl (J_st (R_loadS st90 rfl (ha1.ext E) rfl) rfl ?_)
    refine J_call Try.call47 rfl (c_toLink [.int .i64 ((xs[k]'hi1).cap), o1, .int .i64 ((xs[k]'hi1).credits), .int .i64 ((xs[k]'hi1).back), .int .i64 ((xs[k]'hi1).sent), .int .i64 ((xs[k]'hi1).got)] (xs[k]'hi1) _ (Link.mkR (xs[k]'hi1) (RdD.any (hd1.ext E))) (by have := sum_le (f := cntLink) (show k < xs.length by omega); omega)) rfl (fun _ w3 e2 ho1 => ?_)
    obtain ⟨_, rfl, ho1⟩ := ho1
    have g_ho1 : w.heap.size ≤ w2.heap.size := E.size
    replace E := E.trans e2; replace h1 := h1.ext e2; replace hA := hA.ext e2
    have z3 := e2.size
    obtain ⟨o2, rfl, sp1, hw1⟩ := Link.opO ho1
    refine J_st (R_indexB sl37 rfl rfl (by first | assumption | omega)) rfl ?_
    refine J_storeS' (cs' := mkc (css ++ [[.int .i64 ((xs[k]'hi1).cap), o2, .int .i64 ((xs[k]'hi1).credits), .int .i64 ((xs[k]'hi1).back), .int .i64 ((xs[k]'hi1).sent), .int .i64 ((xs[k]'hi1).got)]]) [.int .i64 0, .slice none 0 0, .int .i64 0, .int .i64 0, .int .i64 0, .int .i64 0] (xs.length - (k + 1))) st76 rfl rfl rfl (all_cons rfl (all_cons hw1.one (all_cons rfl (all_cons rfl (all_cons rfl (all_cons rfl rfl)))))) h1 (mkc_room hA.d hlk rfl hc1n (by rfl)) (mkc_step hA.d hlk rfl hc1n rfl) (fun w4 m1 h1' => ?_)
    replace h1 := h1'
    replace E := E.step m1 (fun g hg => by cases hg; omega); replace hA := hA.mod m1 (fun g hg => by cases hg; omega); replace hw1 := hw1.mod m1 (fun g hg => by cases hg; omega)
    have z4 := m1.size
    refine J_done ?_
    refine S_nil (E_inB ?_)
    refine S_reg [true, true, true] rfl rfl ?_
    refine J_st (R_move rfl) rfl (J_st (R_add rfl rfl (add_one hc1n (hxs.ext E).1.1)) rfl (J_st (R_assign rfl) rfl (J_done ?_)))
    refine S_nil (E_again (k + 1, css ++ [[.int .i64 ((xs[k]'hi1).cap), o2, .int .i64 ((xs[k]'hi1).credits), .int .i64 ((xs[k]'hi1).back), .int .i64 ((xs[k]'hi1).sent), .int .i64 ((xs[k]'hi1).got)]]) (by simp; omega) ⟨rfl, rfl, rfl, rfl, trivial⟩ ⟨E, (by omega), (by omega), (by simp [hlk]), h1, (AllO.widen (AllO.step hA hc1n (Link.mkO (xs[k]'hi1) sp1 (Own.widen hw1 (by omega) (by omega))) (Nat.le_refl _) (Nat.le_refl _) (by omega) (by omega)) (Nat.le_refl _) (by omega))⟩)
  · have hc1n : ¬ k < xs.length := by first | (have h := of_decide_eq_false hc1; omega) | (have h := hc1; simp at h; omega)
    refine S_exit (E_lp_exit (E_inB_exit ?_))
    refine S_seq ?_
    refine S_reg [true, true] rfl rfl ?_
    refine J_st (R_move rfl) rfl (J_st (R_assign rfl) rfl (J_done ?_))
    refine S_ret (E_done1 rfl rfl E ?_)
    obtain rfl : k = xs.length := by omega
    rw [Nat.sub_self, mkc_all] at h1
    rw [List.take_length] at hA
    exact OwS.ofBlk h1 hA (by have := E.size; omega) (by omega) (by have := E.size; omega) (by omega) (by omega) rfl (by unfold maxLen; omega)

set_option maxRecDepth 20000 in
theorem c_eqLinkS (vxs : Value) (xs : List Link) (vys : Value) (ys : List Link) (w : World) (hxs : RdD w 0 w.heap.size vxs xs) (hys : RdD w 0 w.heap.size vys ys) : Ct Try.prog 27 [vxs, vys] w (fun v _ => v = .bool (decide (xs = ys))) := by
  refine ct_of Try.func27 rfl Try.ntmps27 rfl ?_
  refine S_sub [(0, vxs), (1, vys)] ⟨rfl, rfl, trivial⟩ ?_
  have E : Ext w w := Ext.refl w
  refine S_seq ?_
  refine S_reg [true] rfl rfl ?_
  refine J_st (R_assign rfl) rfl (J_done ?_)
  refine S_seq ?_
  refine S_seq ?_
  refine S_reg [true, true, true, true, true] rfl rfl ?_
  refine J_st (R_move rfl) rfl (J_st (R_len Try.underlying37 rfl (hxs.ext E).len) rfl (J_st (R_move rfl) rfl (J_st (R_len Try.underlying37 rfl (hys.ext E).len) rfl (J_st (R_neq rfl rfl) rfl (J_done ?_)))))
  refine S_cond rfl (fun hc1 => ?_) (fun hc1 => ?_)
  · have hc1n : ¬ xs.length = ys.length := by first | (have h := of_decide_eq_true hc1; omega) | (have h := hc1; simp at h; omega)
    refine S_seq ?_
    refine S_reg [true] rfl rfl ?_
    refine J_st (R_assign rfl) rfl (J_done ?_)
    refine S_ret (E_done1 rfl rfl E ?_)
    simp [eq_len hc1n]
  · have hc1n : xs.length = ys.length := by first | (have h := of_decide_eq_false hc1; omega) | (have h := hc1; simp at h; omega)
    refine S_skip ?_
    refine S_seq ?_
    refine S_seq ?_
    refine S_reg [true] rfl rfl ?_
    refine J_st (R_assign rfl) rfl (J_done ?_)
    refine S_block ?_
    refine S_loop (fun (k : Nat) => [(0, vxs), (1, vys), (4, .bool false), (5, .int .i64 ((k : Nat) : Int))]) (fun (k : Nat) w' => Ext w w' ∧ w.heap.size ≤ w'.heap.size ∧ k ≤ xs.length ∧ xs.take k = ys.take k) (fun (k : Nat) => xs.length - k) 0 ⟨rfl, rfl, rfl, rfl, trivial⟩ ⟨E, Nat.le_refl _, Nat.zero_le _, rfl⟩ ?_
    clear E
    rintro k w1 ⟨E, z1, hk, hp⟩
    refine S_seq ?_
    refine S_seq ?_
    refine S_reg [true, true, true, true] rfl rfl ?_
    refine J_st (R_move rfl) rfl (J_st (R_move rfl) rfl (J_st (R_len Try.underlying37 rfl (hxs.ext E).len) rfl (J_st (R_lss rfl rfl) rfl (J_done ?_))))
    refine S_cond rfl (fun hc2 => ?_) (fun hc2 => ?_)
    · have hc2n : k < xs.length := by first | (have h := of_decide_eq_true hc2; omega) | (have h := hc2; simp at h; omega)
      refine S_skip ?_
      refine S_seq ?_
      refine S_block ?_
      refine S_seq ?_
      refine S_regD mixed [(0, true), (1, true), (2, true), (3, true), (4, true), (5, true), (6, true), (7, true), (8, false), (9, true)] (by decide +kernel) rfl (fun w2 e1 => ?_)
      replace E := E.trans e1
      have z2 := e1.size
      refine J_st (R_move rfl) rfl (J_st (R_move rfl) rfl ?_)
      have hi1 : k < xs.length := (by first | assumption | omega)
      obtain ⟨_, hr1, ha1⟩ := RdD.get hxs hi1
      obtain ⟨o1, rfl, hd1⟩ := Link.op hr1
      replace ha1 : At w (sblk vxs) (soff vxs + k * 6) [.int .i64 ((xs[k]'hi1).cap), o1, .int .i64 ((xs[k]'hi1).credits), .int .i64 ((xs[k]'hi1).back), .int .i64 ((xs[k]'hi1).sent), .int .i64 ((xs[k]'hi1).got)] := ha1
      refine J_st (R_index (i := k) sl37 rfl rfl (hxs.ext E).1 hi1) rfl (J_st (R_loadS st76 rfl (ha1.ext E) rfl) rfl (J_st (R_move rfl) rfl (J_st (R_move rfl) rfl ?_)))
      have hi2 : k < ys.length := (by first | assumption | omega)
      obtain ⟨_, hr2, ha2⟩ := RdD.get hys hi2
      obtain ⟨o2, rfl, hd2⟩ := Link.op hr2
      replace ha2 : At w (sblk vys) (soff vys + k * 6) [.int .i64 ((ys[k]'hi2).cap), o2, .int .i64 ((ys[k]'hi2).credits), .int .i64 ((ys[k]'hi2).back), .int .i64 ((ys[k]'hi2).sent), .int .i64 ((ys[k]'hi2).got)] := ha2
      refine J_st (R_index (i := k) sl37 rfl rfl (hys.ext E).1 hi2) rfl (J_st (R_loadS st76 rfl (ha2.ext E) rfl) rfl ?_)
      refine J_call Try.call52 rfl (c_eqLink [.int .i64 ((xs[k]'hi1).cap), o1, .int .i64 ((xs[k]'hi1).credits), .int .i64 ((xs[k]'hi1).back), .int .i64 ((xs[k]'hi1).sent), .int .i64 ((xs[k]'hi1).got)] (xs[k]'hi1) [.int .i64 ((ys[k]'hi2).cap), o2, .int .i64 ((ys[k]'hi2).credits), .int .i64 ((ys[k]'hi2).back), .int .i64 ((ys[k]'hi2).sent), .int .i64 ((ys[k]'hi2).got)] (ys[k]'hi2) _ (Link.mkR (xs[k]'hi1) (RdD.any (hd1.ext E))) (Link.mkR (ys[k]'hi2) (RdD.any (hd2.ext E)))) rfl (fun _ w3 e2 hv => ?_)
      subst hv
      replace E := E.trans e2
      have z3 := e2.size
      refine J_st (R_not rfl) rfl (J_done ?_)
      refine S_cond rfl (fun hc3 => ?_) (fun hc3 => ?_)
      · refine S_seq ?_
        refine S_reg [true] rfl rfl ?_
        refine J_st (R_assign rfl) rfl (J_done ?_)
        refine S_ret (E_inB_ret (E_lp_ret (E_inB_ret (E_done1 rfl rfl E ?_))))
        exact eqS_no (by omega) (by omega) (by simpa using hc3)
      · refine S_skip ?_
        refine S_nil (E_inB ?_)
        refine S_reg [true, true, true] rfl rfl ?_
        refine J_st (R_move rfl) rfl (J_st (R_add rfl rfl (add_one hc2n (hxs.ext E).1.1)) rfl (J_st (R_assign rfl) rfl (J_done ?_)))
        refine S_nil (E_again (k + 1) (by omega) ⟨rfl, rfl, rfl, rfl, trivial⟩ ⟨E, (by omega), (by omega), eqS_step hp (by assumption) (by omega) (by simpa using hc3)⟩)
    · have hc2n : ¬ k < xs.length := by first | (have h := of_decide_eq_false hc2; omega) | (have h := hc2; simp at h; omega)
      refine S_exit (E_lp_exit (E_inB_exit ?_))
      refine S_seq ?_
      refine S_reg [true] rfl rfl ?_
      refine J_st (R_assign rfl) rfl (J_done ?_)
      refine S_ret (E_done1 rfl rfl E ?_)
      exact eqS_yes hp hc1n (by omega)

set_option maxRecDepth 20000 in
theorem c_szWorkerS (vxs : Value) (xs : List Worker) (n : Int) (w : World) (hxs : RdD w 0 w.heap.size vxs xs) (h0 : 0 ≤ n ∧ n ≤ 1048576) : Ct Try.prog 16 [vxs, .int .i64 n] w (fun v _ => v = .int .i64 (szM (cntL cntWorker xs) n)) := by
  have hlm := hxs.1.1
  unfold maxLen at hlm
  refine ct_of Try.func16 rfl Try.ntmps16 rfl ?_
  refine S_sub [(0, vxs), (1, .int .i64 n)] ⟨rfl, rfl, trivial⟩ ?_
  have E : Ext w w := Ext.refl w
  refine S_seq ?_
  refine S_reg [true] rfl rfl ?_
  refine J_st (R_assign rfl) rfl (J_done ?_)
  refine S_seq ?_
  refine S_reg [true, true, true, true, true] rfl rfl ?_
  refine J_st (R_move rfl) rfl (J_st (R_move rfl) rfl (J_st (R_len Try.underlying25 rfl (hxs.ext E).len) rfl (J_st (R_sub rfl rfl (wrap_in (by omega) (by omega))) rfl (J_st (R_assign rfl) rfl (J_done ?_)))))
  refine S_seq ?_
  refine S_seq ?_
  refine S_reg [true, true] rfl rfl ?_
  refine J_st (R_move rfl) rfl (J_st (R_lss rfl rfl) rfl (J_done ?_))
  refine S_cond rfl (fun hc1 => ?_) (fun hc1 => ?_)
  · refine S_seq ?_
    refine S_reg [true] rfl rfl ?_
    refine J_st (R_assign rfl) rfl (J_done ?_)
    refine S_ret (E_done1 rfl rfl E ?_)
    exact sz_neg (by have := of_decide_eq_true hc1; unfold cntL; omega)
  · refine S_skip ?_
    refine S_seq ?_
    refine S_seq ?_
    refine S_reg [true] rfl rfl ?_
    refine J_st (R_assign rfl) rfl (J_done ?_)
    refine S_block ?_
    refine S_loop (fun (xq : Nat × Int) => let ⟨k, l⟩ := xq; [(0, vxs), (1, .int .i64 l), (4, .int .i64 0), (5, .int .i64 ((k : Nat) : Int))]) (fun (xq : Nat × Int) w' => let ⟨k, l⟩ := xq; Ext w w' ∧ w.heap.size ≤ w'.heap.size ∧ k ≤ xs.length ∧ 0 ≤ l ∧ l ≤ 1048576 ∧ l = n - ((xs.length : Nat) : Int) - ((((xs.take k).map cntWorker).sum : Nat) : Int)) (fun (xq : Nat × Int) => let ⟨k, l⟩ := xq; xs.length - k) (0, n - ((xs.length : Nat) : Int)) ⟨rfl, rfl, rfl, rfl, trivial⟩ ⟨E, Nat.le_refl _, Nat.zero_le _, (by have := of_decide_eq_false hc1; simp; omega)⟩ ?_
    clear E
    rintro ⟨k, l⟩ w1 ⟨E, z1, hk, hl⟩
    refine S_sub [(0, vxs), (1, .int .i64 l), (4, .int .i64 0), (5, .int .i64 ((k : Nat) : Int))] ⟨rfl, rfl, rfl, rfl, trivial⟩ ?_
    refine S_seq ?_
    refine S_seq ?_
    refine S_reg [true, true, true, true] rfl rfl ?_
    refine J_st (R_move rfl) rfl (J_st (R_move rfl) rfl (J_st (R_len Try.underlying25 rfl (hxs.ext E).len) rfl (J_st (R_lss rfl rfl) rfl (J_done ?_))))
    refine S_cond rfl (fun hc2 => ?_) (fun hc2 => ?_)
    · have hc2n : k < xs.length := by first | (have h := of_decide_eq_true hc2; omega) | (have h := hc2; simp at h; omega)
      refine S_skip ?_
      refine S_seq ?_
      refine S_block ?_
      refine S_seq ?_
      refine S_reg [true, true, true, true, true, false, true] rfl rfl ?_
      refine J_st (R_move rfl) rfl (J_st (R_move rfl) rfl ?_)
      have hi1 : k < xs.length := (by first | assumption | omega)
      obtain ⟨_, hr1, ha1⟩ := RdD.get hxs hi1
      obtain ⟨o1, o2, o3, o4, o5, o6, o7, o8, rfl, hd1, hd2, hd3, hd4, hd5, hd6, hd7, hd8⟩ := Worker.op hr1
      replace ha1 : At w (sblk vxs) (soff vxs + k * 8) [o1, o2, o3, o4, o5, o6, o7, o8] := ha1
      refine J_st (R_index (i := k) sl25 rfl rfl (hxs.ext E).1 hi1) rfl (J_st (R_loadS st87 rfl (ha1.ext E) rfl) rfl (J_st (R_move rfl) rfl ?_))
      refine J_call Try.call43 rfl (c_szWorker [o1, o2, o3, o4, o5, o6, o7, o8] (xs[k]'hi1) l _ (Worker.mkR (xs[k]'hi1) (RdD.any (hd1.ext E)) (RdD.any (hd2.ext E)) (RdD.any (hd3.ext E)) (RdD.any (hd4.ext E)) (RdD.any (hd5.ext E)) (RdD.any (hd6.ext E)) (RdD.any (hd7.ext E)) (RdD.any (hd8.ext E))) (by first | omega | (simp only [mkL_length]; omega) | (rw [mkL_length]))) rfl (fun _ w2 e1 hv => ?_)
      subst hv
      replace E := E.trans e1
      have z2 := e1.size
      refine J_st (R_assign rfl) rfl (J_done ?_)
      refine S_seq ?_
      refine S_reg [true, true] rfl rfl ?_
      refine J_st (R_move rfl) rfl (J_st (R_lss rfl rfl) rfl (J_done ?_))
      refine S_cond rfl (fun hc3 => ?_) (fun hc3 => ?_)
      · have q1 := szM_no hc3 (by omega)
        refine S_seq ?_
        refine S_reg [true] rfl rfl ?_
        refine J_st (R_assign rfl) rfl (J_done ?_)
        refine S_ret (E_inB_ret (E_lp_ret (E_inB_ret (E_done1 rfl rfl E ?_))))
        exact sz_neg (by have := sum_le (f := cntWorker) (show k < xs.length by omega); unfold cntL; omega)
      · have q2 := szM_ok hc3 (by omega)
        refine S_skip ?_
        refine S_nil (E_inB ?_)
        refine S_reg [true, true, true] rfl rfl ?_
        refine J_st (R_move rfl) rfl (J_st (R_add rfl rfl (add_one hc2n (hxs.ext E).1.1)) rfl (J_st (R_assign rfl) rfl (J_done ?_)))
        refine S_nil (E_again (k + 1, szM (cntWorker (xs[k]'hi1)) l) (by simp; omega) ⟨rfl, rfl, rfl, rfl, trivial⟩ ⟨E, (by omega), (by omega), (by have := sum_step (f := cntWorker) (show k < xs.length by omega); omega)⟩)
    · have hc2n : ¬ k < xs.length := by first | (have h := of_decide_eq_false hc2; omega) | (have h := hc2; simp at h; omega)
      refine S_exit (E_lp_exit (E_inB_exit ?_))
      refine S_seq ?_
      refine S_reg [true, true] rfl rfl ?_
      refine J_st (R_move rfl) rfl (J_st (R_assign rfl) rfl (J_done ?_))
      refine S_ret (E_done1 rfl rfl E ?_)
      have := sum_all (f := cntWorker) (show xs.length ≤ k by omega); exact sz_fin (by unfold cntL; omega) (by unfold cntL; omega)

set_option maxRecDepth 20000 in
theorem c_toWorkerS (vxs : Value) (xs : List Worker) (w : World) (hxs : RdD w 0 w.heap.size vxs xs) (hb : cntL cntWorker xs ≤ 1048576) : Ct Try.prog 21 [vxs] w (fun v w' => OwS (α := Worker) w' w.heap.size w'.heap.size v xs) := by
  unfold cntL at hb
  refine ct_of Try.func21 rfl Try.ntmps21 rfl ?_
  refine S_sub [(0, vxs)] ⟨rfl, trivial⟩ ?_
  have E : Ext w w := Ext.refl w
  refine S_seq ?_
  refine S_reg [true] rfl rfl ?_
  refine J_st (R_assign rfl) rfl (J_done ?_)
  refine S_seq ?_
  refine S_reg [true, true, false, true] rfl rfl ?_
  refine J_st (R_move rfl) rfl (J_st (R_len Try.underlying25 rfl (hxs.ext E).len) rfl ?_)
  refine J_make (m := xs.length) sl36 rfl rfl (by omega) (by decide) rfl (fun b1 w1 e1 s1 h1 => ?_)
  have g_b1 : w.heap.size ≤ b1 := by have := E.size; omega
  have y_b1 := h1.lt
  replace E := E.trans e1
  have z1 := e1.size
  refine J_st (R_assign rfl) rfl (J_done ?_)
  refine S_seq ?_
  refine S_seq ?_
  refine S_reg [true] rfl rfl ?_
  refine J_st (R_assign rfl) rfl (J_done ?_)
  refine S_block ?_
  refine S_loop (fun (xq : Nat × List (List Value)) => let ⟨k, css⟩ := xq; [(0, vxs), (2, .slice none 0 0), (3, .slice (some ⟨b1, 0, none⟩) xs.length xs.length), (4, .int .i64 ((k : Nat) : Int))]) (fun (xq : Nat × List (List Value)) w' => let ⟨k, css⟩ := xq; Ext w w' ∧ w1.heap.size ≤ w'.heap.size ∧ k ≤ xs.length ∧ css.length = k ∧ Blk w' b1 (mkc css [.slice none 0 0, .slice none 0 0, .slice none 0 0, .slice none 0 0, .slice none 0 0, .slice none 0 0, .slice none 0 0, .slice none 0 0] (xs.length - k)) ∧ AllO w' w1.heap.size w'.heap.size css (xs.take k)) (fun (xq : Nat × List (List Value)) => let ⟨k, css⟩ := xq; xs.length - k) (0, []) ⟨rfl, rfl, rfl, rfl, trivial⟩ ⟨E, Nat.le_refl _, Nat.zero_le _, rfl, (by simpa [mkc] using h1), (by simp [AllO, All2])⟩ ?_
  clear E h1
  rintro ⟨k, css⟩ w2 ⟨E, z2, hk, hlk, h1, hA⟩
  refine S_sub [(0, vxs), (2, .slice none 0 0), (3, .slice (some ⟨b1, 0, none⟩) xs.length xs.length), (4, .int .i64 ((k : Nat) : Int))] ⟨rfl, rfl, rfl, rfl, trivial⟩ ?_
  refine S_seq ?_
  refine S_seq ?_
  refine S_reg [true, true, true, true] rfl rfl ?_
  refine J_st (R_move rfl) rfl (J_st (R_move rfl) rfl (J_st (R_len Try.underlying25 rfl (hxs.ext E).len) rfl (J_st (R_lss rfl rfl) rfl (J_done ?_))))
  refine S_cond rfl (fun hc1 => ?_) (fun hc1 => ?_)
  · have hc1n : k < xs.length := by first | (have h := of_decide_eq_true hc1; omega) | (have h := hc1; simp at h; omega)
    refine S_skip ?_
    refine S_seq ?_
    refine S_block ?_
    refine S_reg [true, true, true, true, true, true, false, true, false] rfl rfl ?_
    refine J_st (R_move rfl) rfl (J_st (R_move rfl) rfl (J_st (R_move rfl) rfl (J_st (R_move rfl) rfl ?_)))
    have hi1 : k < xs.length := (by first | assumption | omega)
    obtain ⟨_, hr1, ha1⟩ := RdD.get hxs hi1
    obtain ⟨o1, o2, o3, o4, o5, o6, o7, o8, rfl, hd1, hd2, hd3, hd4, hd5, hd6, hd7, hd8⟩ := Worker.op hr1
    replace ha1 : At w (sblk vxs) (soff vxs + k * 8) [o1, o2, o3, o4, o5, o6, o7, o8] := ha1
    refine J_st (R_index (i := k) sl25 rfl rfl (hxs.ext E).1 hi1) rfl (J_st (R_loadS st87 rfl (ha1.ext E) rfl) rfl ?_)
    refine J_call Try.call46 rfl (c_toWorker [o1, o2, o3, o4, o5, o6, o7, o8] (xs[k]'hi1) _ (Worker.mkR (xs[k]'hi1) (RdD.any (hd1.ext E)) (RdD.any (hd2.ext E)) (RdD.any (hd3.ext E)) (RdD.any (hd4.ext E)) (RdD.any (hd5.ext E)) (RdD.any (hd6.ext E)) (RdD.any (hd7.ext E)) (RdD.any (hd8.ext E))) (by have := sum_le (f := cntWorker) (show k < xs.length by omega); omega)) rfl (fun _ w3 e2 ho1 => ?_)
    obtain ⟨_, rfl, ho1⟩ := ho1
    have g_ho1 : w.heap.size ≤ w2.heap.size := E.size
    replace E := E.trans e2; replace h1 := h1.ext e2; replace hA := hA.ext e2
    have z3 := e2.size
    obtain ⟨o9, o10, o11, o12, o13, o14, o15, o16, rfl, sp1, hw1, hw2, hw3, hw4, hw5, hw6, hw7, hw8⟩ := Worker.opO ho1
    refine J_st (R_indexB sl36 rfl rfl (by first | assumption | omega)) rfl ?_
    refine J_storeS' (cs' := mkc (css ++ [[o9, o10, o11, o12, o13, o14, o15, o16]]) [.slice none 0 0, .slice none 0 0, .slice none 0 0, .slice none 0 0, .slice none 0 0, .slice none 0 0, .slice none 0 0, .slice none 0 0] (xs.length - (k + 1))) st72 rfl rfl rfl (all_cons hw1.one (all_cons hw2.one (all_cons hw3.one (all_cons hw4.one (all_cons hw5.one (all_cons hw6.one (all_cons hw7.one (all_cons hw8.one rfl)))))))) h1 (mkc_room hA.d hlk rfl hc1n (by rfl)) (mkc_step hA.d hlk rfl hc1n rfl) (fun w4 m1 h1' => ?_)
    replace h1 := h1'
    replace E := E.step m1 (fun g hg => by cases hg; omega); replace hA := hA.mod m1 (fun g hg => by cases hg; omega); replace hw1 := hw1.mod m1 (fun g hg => by cases hg; omega); replace hw2 := hw2.mod m1 (fun g hg => by cases hg; omega); replace hw3 := hw3.mod m1 (fun g hg => by cases hg; omega); replace hw4 := hw4.mod m1 (fun g hg => by cases hg; omega); replace hw5 := hw5.mod m1 (fun g hg => by cases hg; omega); replace hw6 := hw6.mod m1 (fun g hg => by cases hg; omega); replace hw7 := hw7.mod m1 (fun g hg => by cases hg; omega); replace hw8 := hw8.mod m1 (fun g hg => by cases hg; omega)
    have z4 := m1.size
    refine J_done ?_
    refine S_nil (E_inB ?_)
    refine S_reg [true, true, true] rfl rfl ?_
    refine J_st (R_move rfl) rfl (J_st (R_add rfl rfl (add_one hc1n (hxs.ext E).1.1)) rfl (J_st (R_assign rfl) rfl (J_done ?_)))
    refine S_nil (E_again (k + 1, css ++ [[o9, o10, o11, o12, o13, o14, o15, o16]]) (by simp; omega) ⟨rfl, rfl, rfl, rfl, trivial⟩ ⟨E, (by omega), (by omega), (by simp [hlk]), h1, (AllO.widen (AllO.step hA hc1n (Worker.mkO (xs[k]'hi1) sp1 (Own.widen hw1 (by omega) (by omega)) (Own.widen hw2 (by omega) (by omega)) (Own.widen hw3 (by omega) (by omega)) (Own.widen hw4 (by omega) (by omega)) (Own.widen hw5 (by omega) (by omega)) (Own.widen hw6 (by omega) (by omega)) (Own.widen hw7 (by omega) (by omega)) (Own.widen hw8 (by omega) (by omega))) (Nat.le_refl _) (Nat.le_refl _) (by omega) (by omega)) (Nat.le_refl _) (by omega))⟩)
  · have hc1n : ¬ k < xs.length := by first | (have h := of_decide_eq_false hc1; omega) | (have h := hc1; simp at h; omega)
    refine S_exit (E_lp_exit (E_inB_exit ?_))
    refine S_seq ?_
    refine S_reg [true, true] rfl rfl ?_
    refine J_st (R_move rfl) rfl (J_st (R_assign rfl) rfl (J_done ?_))
    refine S_ret (E_done1 rfl rfl E ?_)
    obtain rfl : k = xs.length := by omega
    rw [Nat.sub_self, mkc_all] at h1
    rw [List.take_length] at hA
    exact OwS.ofBlk h1 hA (by have := E.size; omega) (by omega) (by have := E.size; omega) (by omega) (by omega) rfl (by unfold maxLen; omega)

set_option maxRecDepth 20000 in
theorem c_eqWorkerS (vxs : Value) (xs : List Worker) (vys : Value) (ys : List Worker) (w : World) (hxs : RdD w 0 w.heap.size vxs xs) (hys : RdD w 0 w.heap.size vys ys) : Ct Try.prog 26 [vxs, vys] w (fun v _ => v = .bool (decide (xs = ys))) := by
  refine ct_of Try.func26 rfl Try.ntmps26 rfl ?_
  refine S_sub [(0, vxs), (1, vys)] ⟨rfl, rfl, trivial⟩ ?_
  have E : Ext w w := Ext.refl w
  refine S_seq ?_
  refine S_reg [true] rfl rfl ?_
  refine J_st (R_assign rfl) rfl (J_done ?_)
  refine S_seq ?_
  refine S_seq ?_
  refine S_reg [true, true, true, true, true] rfl rfl ?_
  refine J_st (R_move rfl) rfl (J_st (R_len Try.underlying36 rfl (hxs.ext E).len) rfl (J_st (R_move rfl) rfl (J_st (R_len Try.underlying36 rfl (hys.ext E).len) rfl (J_st (R_neq rfl rfl) rfl (J_done ?_)))))
  refine S_cond rfl (fun hc1 => ?_) (fun hc1 => ?_)
  · have hc1n : ¬ xs.length = ys.length := by first | (have h := of_decide_eq_true hc1; omega) | (have h := hc1; simp at h; omega)
    refine S_seq ?_
    refine S_reg [true] rfl rfl ?_
    refine J_st (R_assign rfl) rfl (J_done ?_)
    refine S_ret (E_done1 rfl rfl E ?_)
    simp [eq_len hc1n]
  · have hc1n : xs.length = ys.length := by first | (have h := of_decide_eq_false hc1; omega) | (have h := hc1; simp at h; omega)
    refine S_skip ?_
    refine S_seq ?_
    refine S_seq ?_
    refine S_reg [true] rfl rfl ?_
    refine J_st (R_assign rfl) rfl (J_done ?_)
    refine S_block ?_
    refine S_loop (fun (k : Nat) => [(0, vxs), (1, vys), (4, .bool false), (5, .int .i64 ((k : Nat) : Int))]) (fun (k : Nat) w' => Ext w w' ∧ w.heap.size ≤ w'.heap.size ∧ k ≤ xs.length ∧ xs.take k = ys.take k) (fun (k : Nat) => xs.length - k) 0 ⟨rfl, rfl, rfl, rfl, trivial⟩ ⟨E, Nat.le_refl _, Nat.zero_le _, rfl⟩ ?_
    clear E
    rintro k w1 ⟨E, z1, hk, hp⟩
    refine S_seq ?_
    refine S_seq ?_
    refine S_reg [true, true, true, true] rfl rfl ?_
    refine J_st (R_move rfl) rfl (J_st (R_move rfl) rfl (J_st (R_len Try.underlying36 rfl (hxs.ext E).len) rfl (J_st (R_lss rfl rfl) rfl (J_done ?_))))
    refine S_cond rfl (fun hc2 => ?_) (fun hc2 => ?_)
    · have hc2n : k < xs.length := by first | (have h := of_decide_eq_true hc2; omega) | (have h := hc2; simp at h; omega)
      refine S_skip ?_
      refine S_seq ?_
      refine S_block ?_
      refine S_seq ?_
      refine S_regD mixed [(0, true), (1, true), (2, true), (3, true), (4, true), (5, true), (6, true), (7, true), (8, false), (9, true)] (by decide +kernel) rfl (fun w2 e1 => ?_)
      replace E := E.trans e1
      have z2 := e1.size
      refine J_st (R_move rfl) rfl (J_st (R_move rfl) rfl ?_)
      have hi1 : k < xs.length := (by first | assumption | omega)
      obtain ⟨_, hr1, ha1⟩ := RdD.get hxs hi1
      obtain ⟨o1, o2, o3, o4, o5, o6, o7, o8, rfl, hd1, hd2, hd3, hd4, hd5, hd6, hd7, hd8⟩ := Worker.op hr1
      replace ha1 : At w (sblk vxs) (soff vxs + k * 8) [o1, o2, o3, o4, o5, o6, o7, o8] := ha1
      refine J_st (R_index (i := k) sl36 rfl rfl (hxs.ext E).1 hi1) rfl (J_st (R_loadS st72 rfl (ha1.ext E) rfl) rfl (J_st (R_move rfl) rfl (J_st (R_move rfl) rfl ?_)))
      have hi2 : k < ys.length := (by first | assumption | omega)
      obtain ⟨_, hr2, ha2⟩ := RdD.get hys hi2
      obtain ⟨o9, o10, o11, o12, o13, o14, o15, o16, rfl, hd9, hd10, hd11, hd12, hd13, hd14, hd15, hd16⟩ := Worker.op hr2
      replace ha2 : At w (sblk vys) (soff vys + k * 8) [o9, o10, o11, o12, o13, o14, o15, o16] := ha2
      refine J_st (R_index (i := k) sl36 rfl rfl (hys.ext E).1 hi2) rfl (J_st (R_loadS st72 rfl (ha2.ext E) rfl) rfl ?_)
      refine J_call Try.call51 rfl (c_eqWorker [o1, o2, o3, o4, o5, o6, o7, o8] (xs[k]'hi1) [o9, o10, o11, o12, o13, o14, o15, o16] (ys[k]'hi2) _ (Worker.mkR (xs[k]'hi1) (RdD.any (hd1.ext E)) (RdD.any (hd2.ext E)) (RdD.any (hd3.ext E)) (RdD.any (hd4.ext E)) (RdD.any (hd5.ext E)) (RdD.any (hd6.ext E)) (RdD.any (hd7.ext E)) (RdD.any (hd8.ext E))) (Worker.mkR (ys[k]'hi2) (RdD.any (hd9.ext E)) (RdD.any (hd10.ext E)) (RdD.any (hd11.ext E)) (RdD.any (hd12.ext E)) (RdD.any (hd13.ext E)) (RdD.any (hd14.ext E)) (RdD.any (hd15.ext E)) (RdD.any (hd16.ext E)))) rfl (fun _ w3 e2 hv => ?_)
      subst hv
      replace E := E.trans e2
      have z3 := e2.size
      refine J_st (R_not rfl) rfl (J_done ?_)
      refine S_cond rfl (fun hc3 => ?_) (fun hc3 => ?_)
      · refine S_seq ?_
        refine S_reg [true] rfl rfl ?_
        refine J_st (R_assign rfl) rfl (J_done ?_)
        refine S_ret (E_inB_ret (E_lp_ret (E_inB_ret (E_done1 rfl rfl E ?_))))
        exact eqS_no (by omega) (by omega) (by simpa using hc3)
      · refine S_skip ?_
        refine S_nil (E_inB ?_)
        refine S_reg [true, true, true] rfl rfl ?_
        refine J_st (R_move rfl) rfl (J_st (R_add rfl rfl (add_one hc2n (hxs.ext E).1.1)) rfl (J_st (R_assign rfl) rfl (J_done ?_)))
        refine S_nil (E_again (k + 1) (by omega) ⟨rfl, rfl, rfl, rfl, trivial⟩ ⟨E, (by omega), (by omega), eqS_step hp (by assumption) (by omega) (by simpa using hc3)⟩)
    · have hc2n : ¬ k < xs.length := by first | (have h := of_decide_eq_false hc2; omega) | (have h := hc2; simp at h; omega)
      refine S_exit (E_lp_exit (E_inB_exit ?_))
      refine S_seq ?_
      refine S_reg [true] rfl rfl ?_
      refine J_st (R_assign rfl) rfl (J_done ?_)
      refine S_ret (E_done1 rfl rfl E ?_)
      exact eqS_yes hp hc1n (by omega)

set_option maxHeartbeats 4000000 in
set_option maxRecDepth 20000 in
theorem c_szCluster (cx : List Value) (x : Cluster) (n : Int) (w : World) (hx : Dat.R w 0 w.heap.size cx x) (h0 : 0 ≤ n ∧ n ≤ 1048576) : Ct Try.prog 6 [.agg cx.toArray, .int .i64 n] w (fun v _ => v = .int .i64 (szM (cntCluster x) n)) := by
  refine ct_of Try.func6 rfl Try.ntmps6 rfl ?_
  obtain ⟨o1, o2, o3, o4, o5, rfl, hd1, hd2, hd3, hd4, hd5⟩ := Cluster.op hx
  refine S_sub [(0, .agg [o1, .int .i64 x.graph.workers, .int .i64 x.graph.cap, o2, o3, o4, o5].toArray), (1, .int .i64 n)] ⟨rfl, rfl, trivial⟩ ?_
  have E : Ext w w := Ext.refl w
  refine S_seq ?_
  refine S_reg [false, true] rfl rfl ?_
  refine J_box rfl rfl (fun b1 w1 e1 s1 h1 => ?_)
  have g_b1 : w.heap.size ≤ b1 := by have := E.size; omega
  have y_b1 := h1.lt
  replace E := E.trans e1
  have z1 := e1.size
  refine J_st (R_assign rfl) rfl (J_done ?_)
  refine S_seq ?_
  refine S_reg [true, true, true, false, true] rfl rfl ?_
  refine J_st (R_fieldAddr0 fl30_0 rfl) rfl (J_st (R_loadS st24 rfl (h1.part 0 [o1, .int .i64 x.graph.workers, .int .i64 x.graph.cap] rfl) rfl) rfl (J_st (R_move rfl) rfl ?_))
  refine J_call Try.call15 rfl (c_szGraph [o1, .int .i64 x.graph.workers, .int .i64 x.graph.cap] x.graph n _ (Graph.mkR x.graph (RdD.any (hd1.ext E))) (by first | omega | (simp only [mkL_length]; omega) | (rw [mkL_length]))) rfl (fun _ w2 e2 hv => ?_)
  subst hv
  replace E := E.trans e2; replace h1 := h1.ext e2
  have z2 := e2.size
  refine J_st (R_assign rfl) rfl (J_done ?_)
  refine S_seq ?_
  refine S_seq ?_
  refine S_reg [true, true] rfl rfl ?_
  refine J_st (R_move rfl) rfl (J_st (R_lss rfl rfl) rfl (J_done ?_))
  refine S_cond rfl (fun hc1 => ?_) (fun hc1 => ?_)
  · have q1 := szM_no hc1 (by omega)
    refine S_seq ?_
    refine S_reg [true] rfl rfl ?_
    refine J_st (R_assign rfl) rfl (J_done ?_)
    refine S_ret (E_done1 rfl rfl E ?_)
    first | exact sz_neg (by unfold cntCluster; omega) | exact sz_fin (by unfold cntCluster; omega) (by unfold cntCluster; omega)
  · have q2 := szM_ok hc1 (by omega)
    refine S_skip ?_
    refine S_seq ?_
    refine S_reg [true, true, true, false, true] rfl rfl ?_
    refine J_st (R_fieldAddr0 fl30_1 rfl) rfl (J_st (R_load sc25 rfl (h1.one 3 rfl)) rfl (J_st (R_move rfl) rfl ?_))
    refine J_call Try.call16 rfl (c_szWorkerS o2 x.workers (szM (cntGraph x.graph) n) _ (RdD.any (hd2.ext E)) (by first | omega | (simp only [mkL_length]; omega) | (rw [mkL_length]))) rfl (fun _ w3 e3 hv => ?_)
    subst hv
    replace E := E.trans e3; replace h1 := h1.ext e3
    have z3 := e3.size
    refine J_st (R_assign rfl) rfl (J_done ?_)
    refine S_seq ?_
    refine S_seq ?_
    refine S_reg [true, true] rfl rfl ?_
    refine J_st (R_move rfl) rfl (J_st (R_lss rfl rfl) rfl (J_done ?_))
    refine S_cond rfl (fun hc2 => ?_) (fun hc2 => ?_)
    · have q3 := szM_no hc2 (by omega)
      refine S_seq ?_
      refine S_reg [true] rfl rfl ?_
      refine J_st (R_assign rfl) rfl (J_done ?_)
      refine S_ret (E_done1 rfl rfl E ?_)
      first | exact sz_neg (by unfold cntCluster; omega) | exact sz_fin (by unfold cntCluster; omega) (by unfold cntCluster; omega)
    · have q4 := szM_ok hc2 (by omega)
      refine S_skip ?_
      refine S_seq ?_
      refine S_reg [true, true, true, false, true] rfl rfl ?_
      refine J_st (R_fieldAddr0 fl30_2 rfl) rfl (J_st (R_load sc26 rfl (h1.one 4 rfl)) rfl (J_st (R_move rfl) rfl ?_))
      refine J_call Try.call17 rfl (c_szLinkS o3 x.links (szM (cntL cntWorker x.workers) (szM (cntGraph x.graph) n)) _ (RdD.any (hd3.ext E)) (by first | omega | (simp only [mkL_length]; omega) | (rw [mkL_length]))) rfl (fun _ w4 e4 hv => ?_)
      subst hv
      replace E := E.trans e4; replace h1 := h1.ext e4
      have z4 := e4.size
      refine J_st (R_assign rfl) rfl (J_done ?_)
      refine S_seq ?_
      refine S_seq ?_
      refine S_reg [true, true] rfl rfl ?_
      refine J_st (R_move rfl) rfl (J_st (R_lss rfl rfl) rfl (J_done ?_))
      refine S_cond rfl (fun hc3 => ?_) (fun hc3 => ?_)
      · have q5 := szM_no hc3 (by omega)
        refine S_seq ?_
        refine S_reg [true] rfl rfl ?_
        refine J_st (R_assign rfl) rfl (J_done ?_)
        refine S_ret (E_done1 rfl rfl E ?_)
        first | exact sz_neg (by unfold cntCluster; omega) | exact sz_fin (by unfold cntCluster; omega) (by unfold cntCluster; omega)
      · have q6 := szM_ok hc3 (by omega)
        refine S_skip ?_
        refine S_seq ?_
        refine S_reg [true, true, true, false, true] rfl rfl ?_
        refine J_st (R_fieldAddr0 fl30_3 rfl) rfl (J_st (R_load sc27 rfl (h1.one 5 rfl)) rfl (J_st (R_move rfl) rfl ?_))
        refine J_call Try.call18 rfl (c_szTokenS o4 x.tokens (szM (cntL cntLink x.links) (szM (cntL cntWorker x.workers) (szM (cntGraph x.graph) n))) _ (hd4.rd.ext E) (by first | omega | (simp only [mkL_length]; omega) | (rw [mkL_length]))) rfl (fun _ w5 e5 hv => ?_)
        subst hv
        replace E := E.trans e5; replace h1 := h1.ext e5
        have z5 := e5.size
        refine J_st (R_assign rfl) rfl (J_done ?_)
        refine S_seq ?_
        refine S_seq ?_
        refine S_reg [true, true] rfl rfl ?_
        refine J_st (R_move rfl) rfl (J_st (R_lss rfl rfl) rfl (J_done ?_))
        refine S_cond rfl (fun hc4 => ?_) (fun hc4 => ?_)
        · have q7 := szM_no hc4 (by omega)
          refine S_seq ?_
          refine S_reg [true] rfl rfl ?_
          refine J_st (R_assign rfl) rfl (J_done ?_)
          refine S_ret (E_done1 rfl rfl E ?_)
          first | exact sz_neg (by unfold cntCluster; omega) | exact sz_fin (by unfold cntCluster; omega) (by unfold cntCluster; omega)
        · have q8 := szM_ok hc4 (by omega)
          refine S_skip ?_
          refine S_seq ?_
          refine S_reg [true, true, true, false, true] rfl rfl ?_
          refine J_st (R_fieldAddr0 fl30_4 rfl) rfl (J_st (R_load sc28 rfl (h1.one 6 rfl)) rfl (J_st (R_move rfl) rfl ?_))
          refine J_call Try.call19 rfl (c_szNewsS o5 x.news (szM x.tokens.length (szM (cntL cntLink x.links) (szM (cntL cntWorker x.workers) (szM (cntGraph x.graph) n)))) _ (hd5.rd.ext E) (by first | omega | (simp only [mkL_length]; omega) | (rw [mkL_length]))) rfl (fun _ w6 e6 hv => ?_)
          subst hv
          replace E := E.trans e6; replace h1 := h1.ext e6
          have z6 := e6.size
          refine J_st (R_assign rfl) rfl (J_done ?_)
          refine S_seq ?_
          refine S_seq ?_
          refine S_reg [true, true] rfl rfl ?_
          refine J_st (R_move rfl) rfl (J_st (R_lss rfl rfl) rfl (J_done ?_))
          refine S_cond rfl (fun hc5 => ?_) (fun hc5 => ?_)
          · have q9 := szM_no hc5 (by omega)
            refine S_seq ?_
            refine S_reg [true] rfl rfl ?_
            refine J_st (R_assign rfl) rfl (J_done ?_)
            refine S_ret (E_done1 rfl rfl E ?_)
            first | exact sz_neg (by unfold cntCluster; omega) | exact sz_fin (by unfold cntCluster; omega) (by unfold cntCluster; omega)
          · have q10 := szM_ok hc5 (by omega)
            refine S_skip ?_
            refine S_seq ?_
            refine S_reg [true, true] rfl rfl ?_
            refine J_st (R_move rfl) rfl (J_st (R_assign rfl) rfl (J_done ?_))
            refine S_ret (E_done1 rfl rfl E ?_)
            first | exact sz_neg (by unfold cntCluster; omega) | exact sz_fin (by unfold cntCluster; omega) (by unfold cntCluster; omega)

set_option maxRecDepth 20000 in
theorem c_eqCluster (cx : List Value) (x : Cluster) (cy : List Value) (y : Cluster) (w : World) (hx : Dat.R w 0 w.heap.size cx x) (hy : Dat.R w 0 w.heap.size cy y) : Ct Try.prog 10 [.agg cx.toArray, .agg cy.toArray] w (fun v _ => v = .bool (decide (x = y))) := by
  refine ct_of Try.func10 rfl Try.ntmps10 rfl ?_
  obtain ⟨o1, o2, o3, o4, o5, rfl, hd1, hd2, hd3, hd4, hd5⟩ := Cluster.op hx
  obtain ⟨o6, o7, o8, o9, o10, rfl, hd6, hd7, hd8, hd9, hd10⟩ := Cluster.op hy
  refine S_sub [(0, .agg [o1, .int .i64 x.graph.workers, .int .i64 x.graph.cap, o2, o3, o4, o5].toArray), (1, .agg [o6, .int .i64 y.graph.workers, .int .i64 y.graph.cap, o7, o8, o9, o10].toArray)] ⟨rfl, rfl, trivial⟩ ?_
  have E : Ext w w := Ext.refl w
  refine S_seq ?_
  refine S_reg [false, false, true] rfl rfl ?_
  refine J_box rfl rfl (fun b1 w1 e1 s1 h1 => ?_)
  have g_b1 : w.heap.size ≤ b1 := by have := E.size; omega
  have y_b1 := h1.lt
  replace E := E.trans e1
  have z1 := e1.size
  refine J_box rfl rfl (fun b2 w2 e2 s2 h2 => ?_)
  have g_b2 : w.heap.size ≤ b2 := by have := E.size; omega
  have y_b2 := h2.lt
  replace E := E.trans e2; replace h1 := h1.ext e2
  have z2 := e2.size
  refine J_st (R_assign rfl) rfl (J_done ?_)
  refine S_seq ?_
  refine S_seq ?_
  refine S_reg [true, true, true, true, false, true] rfl rfl ?_
  refine J_st (R_fieldAddr0 fl41_0 rfl) rfl (J_st (R_loadS st35 rfl (h1.part 0 [o1, .int .i64 x.graph.workers, .int .i64 x.graph.cap] rfl) rfl) rfl (J_st (R_fieldAddr0 fl41_0 rfl) rfl (J_st (R_loadS st35 rfl (h2.part 0 [o6, .int .i64 y.graph.workers, .int .i64 y.graph.cap] rfl) rfl) rfl ?_)))
  refine J_call Try.call25 rfl (c_eqGraph [o1, .int .i64 x.graph.workers, .int .i64 x.graph.cap] x.graph [o6, .int .i64 y.graph.workers, .int .i64 y.graph.cap] y.graph _ (Graph.mkR x.graph (RdD.any (hd1.ext E))) (Graph.mkR y.graph (RdD.any (hd6.ext E)))) rfl (fun _ w3 e3 hv => ?_)
  subst hv
  replace E := E.trans e3; replace h1 := h1.ext e3; replace h2 := h2.ext e3
  have z3 := e3.size
  refine J_st (R_not rfl) rfl (J_done ?_)
  refine S_cond rfl (fun hc1 => ?_) (fun hc1 => ?_)
  · refine S_seq ?_
    refine S_reg [true] rfl rfl ?_
    refine J_st (R_assign rfl) rfl (J_done ?_)
    refine S_ret (E_done1 rfl rfl E ?_)
    cases x; cases y; simp_all
  · refine S_skip ?_
    refine S_seq ?_
    refine S_seq ?_
    refine S_reg [true, true, true, true, false, true] rfl rfl ?_
    refine J_st (R_fieldAddr0 fl41_1 rfl) rfl (J_st (R_load sc36 rfl (h1.one 3 rfl)) rfl (J_st (R_fieldAddr0 fl41_1 rfl) rfl (J_st (R_load sc36 rfl (h2.one 3 rfl)) rfl ?_)))
    refine J_call Try.call26 rfl (c_eqWorkerS o2 x.workers o7 y.workers _ (RdD.any (hd2.ext E)) (RdD.any (hd7.ext E))) rfl (fun _ w4 e4 hv => ?_)
    subst hv
    replace E := E.trans e4; replace h1 := h1.ext e4; replace h2 := h2.ext e4
    have z4 := e4.size
    refine J_st (R_not rfl) rfl (J_done ?_)
    refine S_cond rfl (fun hc2 => ?_) (fun hc2 => ?_)
    · refine S_seq ?_
      refine S_reg [true] rfl rfl ?_
      refine J_st (R_assign rfl) rfl (J_done ?_)
      refine S_ret (E_done1 rfl rfl E ?_)
      cases x; cases y; simp_all
    · refine S_skip ?_
      refine S_seq ?_
      refine S_seq ?_
      refine S_reg [true, true, true, true, false, true] rfl rfl ?_
      refine J_st (R_fieldAddr0 fl41_2 rfl) rfl (J_st (R_load sc37 rfl (h1.one 4 rfl)) rfl (J_st (R_fieldAddr0 fl41_2 rfl) rfl (J_st (R_load sc37 rfl (h2.one 4 rfl)) rfl ?_)))
      refine J_call Try.call27 rfl (c_eqLinkS o3 x.links o8 y.links _ (RdD.any (hd3.ext E)) (RdD.any (hd8.ext E))) rfl (fun _ w5 e5 hv => ?_)
      subst hv
      replace E := E.trans e5; replace h1 := h1.ext e5; replace h2 := h2.ext e5
      have z5 := e5.size
      refine J_st (R_not rfl) rfl (J_done ?_)
      refine S_cond rfl (fun hc3 => ?_) (fun hc3 => ?_)
      · refine S_seq ?_
        refine S_reg [true] rfl rfl ?_
        refine J_st (R_assign rfl) rfl (J_done ?_)
        refine S_ret (E_done1 rfl rfl E ?_)
        cases x; cases y; simp_all
      · refine S_skip ?_
        refine S_seq ?_
        refine S_seq ?_
        refine S_reg [true, true, true, true, false, true] rfl rfl ?_
        refine J_st (R_fieldAddr0 fl41_3 rfl) rfl (J_st (R_load sc38 rfl (h1.one 5 rfl)) rfl (J_st (R_fieldAddr0 fl41_3 rfl) rfl (J_st (R_load sc38 rfl (h2.one 5 rfl)) rfl ?_)))
        refine J_call Try.call28 rfl (c_eqTokenS o4 x.tokens o9 y.tokens _ (hd4.rd.ext E) (hd9.rd.ext E)) rfl (fun _ w6 e6 hv => ?_)
        subst hv
        replace E := E.trans e6; replace h1 := h1.ext e6; replace h2 := h2.ext e6
        have z6 := e6.size
        refine J_st (R_not rfl) rfl (J_done ?_)
        refine S_cond rfl (fun hc4 => ?_) (fun hc4 => ?_)
        · refine S_seq ?_
          refine S_reg [true] rfl rfl ?_
          refine J_st (R_assign rfl) rfl (J_done ?_)
          refine S_ret (E_done1 rfl rfl E ?_)
          cases x; cases y; simp_all
        · refine S_skip ?_
          refine S_seq ?_
          refine S_seq ?_
          refine S_reg [true, true, true, true, false, true] rfl rfl ?_
          refine J_st (R_fieldAddr0 fl41_4 rfl) rfl (J_st (R_load sc39 rfl (h1.one 6 rfl)) rfl (J_st (R_fieldAddr0 fl41_4 rfl) rfl (J_st (R_load sc39 rfl (h2.one 6 rfl)) rfl ?_)))
          refine J_call Try.call29 rfl (c_eqNewsS o5 x.news o10 y.news _ (hd5.rd.ext E) (hd10.rd.ext E)) rfl (fun _ w7 e7 hv => ?_)
          subst hv
          replace E := E.trans e7; replace h1 := h1.ext e7; replace h2 := h2.ext e7
          have z7 := e7.size
          refine J_st (R_not rfl) rfl (J_done ?_)
          refine S_cond rfl (fun hc5 => ?_) (fun hc5 => ?_)
          · refine S_seq ?_
            refine S_reg [true] rfl rfl ?_
            refine J_st (R_assign rfl) rfl (J_done ?_)
            refine S_ret (E_done1 rfl rfl E ?_)
            cases x; cases y; simp_all
          · refine S_skip ?_
            refine S_seq ?_
            refine S_reg [true] rfl rfl ?_
            refine J_st (R_assign rfl) rfl (J_done ?_)
            refine S_ret (E_done1 rfl rfl E ?_)
            cases x; cases y; simp_all

set_option maxRecDepth 20000 in
theorem c_toCluster (cx : List Value) (x : Cluster) (w : World) (hx : Dat.R w 0 w.heap.size cx x) (hb : cntCluster x ≤ 1048576) : Ct Try.prog 8 [.agg cx.toArray] w (fun v w' => ∃ cs, v = .agg cs.toArray ∧ Dat.R w' w.heap.size w'.heap.size cs x) := by
  unfold cntCluster at hb
  refine ct_of Try.func8 rfl Try.ntmps8 rfl ?_
  obtain ⟨o1, o2, o3, o4, o5, rfl, hd1, hd2, hd3, hd4, hd5⟩ := Cluster.op hx
  refine S_sub [(0, .agg [o1, .int .i64 x.graph.workers, .int .i64 x.graph.cap, o2, o3, o4, o5].toArray)] ⟨rfl, trivial⟩ ?_
  have E : Ext w w := Ext.refl w
  refine S_seq ?_
  refine S_reg [false, false] rfl rfl ?_
  refine J_box rfl rfl (fun b1 w1 e1 s1 h1 => ?_)
  have g_b1 : w.heap.size ≤ b1 := by have := E.size; omega
  have y_b1 := h1.lt
  replace E := E.trans e1
  have z1 := e1.size
  refine J_alloc st41 rfl (fun b2 w2 e2 s2 h2 => ?_)
  have g_b2 : w.heap.size ≤ b2 := by have := E.size; omega
  have y_b2 := h2.lt
  replace E := E.trans e2; replace h1 := h1.ext e2
  have z2 := e2.size
  refine J_done ?_
  refine S_seq ?_
  refine S_reg [false] rfl rfl ?_
  refine J_alloc st41 rfl (fun b3 w3 e3 s3 h3 => ?_)
  have g_b3 : w.heap.size ≤ b3 := by have := E.size; omega
  have y_b3 := h3.lt
  replace E := E.trans e3; replace h1 := h1.ext e3; replace h2 := h2.ext e3
  have z3 := e3.size
  refine J_done ?_
  refine S_seq ?_
  refine S_reg [true, true, false, true, false] rfl rfl ?_
  refine J_st (R_fieldAddr0 fl30_0 rfl) rfl (J_st (R_loadS st24 rfl (h1.part 0 [o1, .int .i64 x.graph.workers, .int .i64 x.graph.cap] rfl) rfl) rfl ?_)
  refine J_call Try.call20 rfl (c_toGraph [o1, .int .i64 x.graph.workers, .int .i64 x.graph.cap] x.graph _ (Graph.mkR x.graph (RdD.any (hd1.ext E))) (by first | omega | (simp only [mkL_length]; omega) | (rw [mkL_length]))) rfl (fun _ w4 e4 ho1 => ?_)
  obtain ⟨o6, rfl, ho1⟩ := ho1
  have g_ho1 : w.heap.size ≤ w3.heap.size := E.size
  replace E := E.trans e4; replace h1 := h1.ext e4; replace h2 := h2.ext e4; replace h3 := h3.ext e4
  have z4 := e4.size
  refine J_st (R_fieldAddr0 fl41_0 rfl) rfl ?_
  refine J_storeS' (cs' := [o6, .int .i64 x.graph.workers, .int .i64 x.graph.cap, .slice none 0 0, .slice none 0 0, .slice none 0 0, .slice none 0 0]) st35 rfl rfl rfl (all_cons (RdD.one (OwS.rd ho1)) (all_cons rfl (all_cons rfl rfl))) h3 (Nat.le_of_ble_eq_true rfl) rfl (fun w5 m1 h3' => ?_)
  replace h3 := h3'
  replace E := E.step m1 (fun g hg => by cases hg; omega); replace h1 := h1.mod m1 (fun g hg => by cases hg; omega); replace h2 := h2.mod m1 (fun g hg => by cases hg; omega); replace ho1 := ho1.mod m1 (fun g hg => by cases hg; omega)
  have z5 := m1.size
  refine J_done ?_
  refine S_seq ?_
  refine S_reg [true, true, false, true, false] rfl rfl ?_
  refine J_st (R_fieldAddr0 fl30_1 rfl) rfl (J_st (R_load sc25 rfl (h1.one 3 rfl)) rfl ?_)
  refine J_call Try.call21 rfl (c_toWorkerS o2 x.workers _ (RdD.any (hd2.ext E)) (by first | omega | (simp only [mkL_length]; omega) | (rw [mkL_length]))) rfl (fun v1 w6 e5 ho2 => ?_)
  have g_ho2 : w.heap.size ≤ w5.heap.size := E.size
  replace E := E.trans e5; replace h1 := h1.ext e5; replace h2 := h2.ext e5; replace h3 := h3.ext e5; replace ho1 := ho1.ext e5
  have z6 := e5.size
  refine J_st (R_fieldAddr0 fl41_1 rfl) rfl ?_
  refine J_store' (cs' := [o6, .int .i64 x.graph.workers, .int .i64 x.graph.cap, v1, .slice none 0 0, .slice none 0 0, .slice none 0 0]) sc36 rfl rfl (RdD.one (OwS.rd ho2)) h3 (Nat.le_of_ble_eq_true rfl) rfl (fun w7 m2 h3' => ?_)
  replace h3 := h3'
  replace E := E.step m2 (fun g hg => by cases hg; omega); replace h1 := h1.mod m2 (fun g hg => by cases hg; omega); replace h2 := h2.mod m2 (fun g hg => by cases hg; omega); replace ho1 := ho1.mod m2 (fun g hg => by cases hg; omega); replace ho2 := ho2.mod m2 (fun g hg => by cases hg; omega)
  have z7 := m2.size
  refine J_done ?_
  refine S_seq ?_
  refine S_reg [true, true, false, true, false] rfl rfl ?_
  refine J_st (R_fieldAddr0 fl30_2 rfl) rfl (J_st (R_load sc26 rfl (h1.one 4 rfl)) rfl ?_)
  refine J_call Try.call22 rfl (c_toLinkS o3 x.links _ (RdD.any (hd3.ext E)) (by first | omega | (simp only [mkL_length]; omega) | (rw [mkL_length]))) rfl (fun v2 w8 e6 ho3 => ?_)
  have g_ho3 : w.heap.size ≤ w7.heap.size := E.size
  replace E := E.trans e6; replace h1 := h1.ext e6; replace h2 := h2.ext e6; replace h3 := h3.ext e6; replace ho1 := ho1.ext e6; replace ho2 := ho2.ext e6
  have z8 := e6.size
  refine J_st (R_fieldAddr0 fl41_2 rfl) rfl ?_
  refine J_store' (cs' := [o6, .int .i64 x.graph.workers, .int .i64 x.graph.cap, v1, v2, .slice none 0 0, .slice none 0 0]) sc37 rfl rfl (RdD.one (OwS.rd ho3)) h3 (Nat.le_of_ble_eq_true rfl) rfl (fun w9 m3 h3' => ?_)
  replace h3 := h3'
  replace E := E.step m3 (fun g hg => by cases hg; omega); replace h1 := h1.mod m3 (fun g hg => by cases hg; omega); replace h2 := h2.mod m3 (fun g hg => by cases hg; omega); replace ho1 := ho1.mod m3 (fun g hg => by cases hg; omega); replace ho2 := ho2.mod m3 (fun g hg => by cases hg; omega); replace ho3 := ho3.mod m3 (fun g hg => by cases hg; omega)
  have z9 := m3.size
  refine J_done ?_
  refine S_seq ?_
  refine S_reg [true, true, false, true, false] rfl rfl ?_
  refine J_st (R_fieldAddr0 fl30_3 rfl) rfl (J_st (R_load sc27 rfl (h1.one 5 rfl)) rfl ?_)
  refine J_call Try.call23 rfl (c_toTokenS o4 x.tokens _ (hd4.rd.ext E) (by first | omega | (simp only [mkL_length]; omega) | (rw [mkL_length]))) rfl (fun v3 w10 e7 ho4 => ?_)
  have g_ho4 : w.heap.size ≤ w9.heap.size := E.size
  replace E := E.trans e7; replace h1 := h1.ext e7; replace h2 := h2.ext e7; replace h3 := h3.ext e7; replace ho1 := ho1.ext e7; replace ho2 := ho2.ext e7; replace ho3 := ho3.ext e7
  have z10 := e7.size
  refine J_st (R_fieldAddr0 fl41_3 rfl) rfl ?_
  refine J_store' (cs' := [o6, .int .i64 x.graph.workers, .int .i64 x.graph.cap, v1, v2, v3, .slice none 0 0]) sc38 rfl rfl ho4.one h3 (Nat.le_of_ble_eq_true rfl) rfl (fun w11 m4 h3' => ?_)
  replace h3 := h3'
  replace E := E.step m4 (fun g hg => by cases hg; omega); replace h1 := h1.mod m4 (fun g hg => by cases hg; omega); replace h2 := h2.mod m4 (fun g hg => by cases hg; omega); replace ho1 := ho1.mod m4 (fun g hg => by cases hg; omega); replace ho2 := ho2.mod m4 (fun g hg => by cases hg; omega); replace ho3 := ho3.mod m4 (fun g hg => by cases hg; omega); replace ho4 := ho4.mod m4 (fun g hg => by cases hg; omega)
  have z11 := m4.size
  refine J_done ?_
  refine S_seq ?_
  refine S_reg [true, true, false, true, false] rfl rfl ?_
  refine J_st (R_fieldAddr0 fl30_4 rfl) rfl (J_st (R_load sc28 rfl (h1.one 6 rfl)) rfl ?_)
  refine J_call Try.call24 rfl (c_toNewsS o5 x.news _ (hd5.rd.ext E) (by first | omega | (simp only [mkL_length]; omega) | (rw [mkL_length]))) rfl (fun v4 w12 e8 ho5 => ?_)
  have g_ho5 : w.heap.size ≤ w11.heap.size := E.size
  replace E := E.trans e8; replace h1 := h1.ext e8; replace h2 := h2.ext e8; replace h3 := h3.ext e8; replace ho1 := ho1.ext e8; replace ho2 := ho2.ext e8; replace ho3 := ho3.ext e8; replace ho4 := ho4.ext e8
  have z12 := e8.size
  refine J_st (R_fieldAddr0 fl41_4 rfl) rfl ?_
  refine J_store' (cs' := [o6, .int .i64 x.graph.workers, .int .i64 x.graph.cap, v1, v2, v3, v4]) sc39 rfl rfl ho5.one h3 (Nat.le_of_ble_eq_true rfl) rfl (fun w13 m5 h3' => ?_)
  replace h3 := h3'
  replace E := E.step m5 (fun g hg => by cases hg; omega); replace h1 := h1.mod m5 (fun g hg => by cases hg; omega); replace h2 := h2.mod m5 (fun g hg => by cases hg; omega); replace ho1 := ho1.mod m5 (fun g hg => by cases hg; omega); replace ho2 := ho2.mod m5 (fun g hg => by cases hg; omega); replace ho3 := ho3.mod m5 (fun g hg => by cases hg; omega); replace ho4 := ho4.mod m5 (fun g hg => by cases hg; omega); replace ho5 := ho5.mod m5 (fun g hg => by cases hg; omega)
  have z13 := m5.size
  refine J_done ?_
  refine S_seq ?_
  refine S_reg [true, false] rfl rfl ?_
  refine J_st (R_loadS st41 rfl h3.at rfl) rfl ?_
  refine J_storeS' (cs' := [o6, .int .i64 x.graph.workers, .int .i64 x.graph.cap, v1, v2, v3, v4]) st41 rfl rfl rfl (all_cons (RdD.one (OwS.rd ho1)) (all_cons rfl (all_cons rfl (all_cons (RdD.one (OwS.rd ho2)) (all_cons (RdD.one (OwS.rd ho3)) (all_cons ho4.one (all_cons ho5.one rfl))))))) h2 (Nat.le_of_ble_eq_true rfl) rfl (fun w14 m6 h2' => ?_)
  replace h2 := h2'
  replace E := E.step m6 (fun g hg => by cases hg; omega); replace h1 := h1.mod m6 (fun g hg => by cases hg; omega); replace h3 := h3.mod m6 (fun g hg => by cases hg; omega); replace ho1 := ho1.mod m6 (fun g hg => by cases hg; omega); replace ho2 := ho2.mod m6 (fun g hg => by cases hg; omega); replace ho3 := ho3.mod m6 (fun g hg => by cases hg; omega); replace ho4 := ho4.mod m6 (fun g hg => by cases hg; omega); replace ho5 := ho5.mod m6 (fun g hg => by cases hg; omega)
  have z14 := m6.size
  refine J_done ?_
  refine S_ret (E_doneC rfl rfl (run_loadVar_st st41 h2.at rfl) E ?_)
  exact ⟨_, rfl, Cluster.mkR _ (RdD.widen (OwS.rd ho1) (by have := E.size; omega) (by omega)) (RdD.widen (OwS.rd ho2) (by have := E.size; omega) (by omega)) (RdD.widen (OwS.rd ho3) (by have := E.size; omega) (by omega)) (RdD.widen (Own.rdD ho4) (by have := E.size; omega) (by omega)) (RdD.widen (Own.rdD ho5) (by have := E.size; omega) (by omega))⟩

set_option maxRecDepth 20000 in
theorem c_SameLink (cx : List Value) (x : Link) (cy : List Value) (y : Link) (w : World) (hx : Dat.R w 0 w.heap.size cx x) (hy : Dat.R w 0 w.heap.size cy y) : Ct Try.prog 39 [.agg cx.toArray, .agg cy.toArray] w (fun v _ => v = .bool (decide (x = y))) := by
  refine ct_of Try.func39 rfl Try.ntmps39 rfl ?_
  obtain ⟨o1, rfl, hd1⟩ := Link.op hx
  obtain ⟨o2, rfl, hd2⟩ := Link.op hy
  refine S_sub [(0, .agg [.int .i64 x.cap, o1, .int .i64 x.credits, .int .i64 x.back, .int .i64 x.sent, .int .i64 x.got].toArray), (1, .agg [.int .i64 y.cap, o2, .int .i64 y.credits, .int .i64 y.back, .int .i64 y.sent, .int .i64 y.got].toArray)] ⟨rfl, rfl, trivial⟩ ?_
  have E : Ext w w := Ext.refl w
  refine S_seq ?_
  refine S_reg [false, false, true] rfl rfl ?_
  refine J_box rfl rfl (fun b1 w1 e1 s1 h1 => ?_)
  have g_b1 : w.heap.size ≤ b1 := by have := E.size; omega
  have y_b1 := h1.lt
  replace E := E.trans e1
  have z1 := e1.size
  refine J_box rfl rfl (fun b2 w2 e2 s2 h2 => ?_)
  have g_b2 : w.heap.size ≤ b2 := by have := E.size; omega
  have y_b2 := h2.lt
  replace E := E.trans e2; replace h1 := h1.ext e2
  have z2 := e2.size
  refine J_st (R_assign rfl) rfl (J_done ?_)
  refine S_seq ?_
  refine S_reg [true, true, true, true, true, true, true, true, true, true, false, true, true, true, true, true, true, true, true, true, true, true, true, true, true, true, true, true, true, true, true, true, true, true, true, true, true, true, true, true, true] rfl rfl ?_
  refine J_st (R_fieldAddr0 fl76_0 rfl) rfl (J_st (R_load sc3 rfl (h1.one 0 rfl)) rfl (J_st (R_fieldAddr0 fl76_0 rfl) rfl (J_st (R_load sc3 rfl (h2.one 0 rfl)) rfl (J_st (R_eql rfl rfl) rfl (J_st (R_move rfl) rfl ?_)))))
  refine J_cut 34 [(0, .agg [.int .i64 x.cap, o1, .int .i64 x.credits, .int .i64 x.back, .int .i64 x.sent, .int .i64 x.got].toArray), (1, .agg [.int .i64 y.cap, o2, .int .i64 y.credits, .int .i64 y.back, .int .i64 y.sent, .int .i64 y.got].toArray), (2, .pointer (some ⟨b1, 0, none⟩)), (3, .pointer (some ⟨b2, 0, none⟩)), (4, .bool false), (44, .bool ((((((x.cap == y.cap) && (decide (x.queue = y.queue))) && (x.credits == y.credits)) && (x.back == y.back)) && (x.sent == y.sent)) && (x.got == y.got)))] (fun w' => Ext w w' ∧ w2.heap.size ≤ w'.heap.size ∧ Blk w' b1 ([.int .i64 x.cap, o1, .int .i64 x.credits, .int .i64 x.back, .int .i64 x.sent, .int .i64 x.got]) ∧ Blk w' b2 ([.int .i64 y.cap, o2, .int .i64 y.credits, .int .i64 y.back, .int .i64 y.sent, .int .i64 y.got])) ?_ ?_
  · refine J_if (gd := 10) rfl rfl (fun hg1 => ?_) (fun hg1 => ?_)
    · refine J_gd rfl rfl (R_fieldAddr0 fl76_1 rfl) rfl (J_gd rfl rfl (R_load sc66 rfl (h1.one 1 rfl)) rfl (J_gd rfl rfl (R_fieldAddr0 fl76_1 rfl) rfl (J_gd rfl rfl (R_load sc66 rfl (h2.one 1 rfl)) rfl ?_)))
      refine J_ung rfl rfl ?_
      refine J_call Try.call61 rfl (c_slicesEqualRecord o1 x.queue o2 y.queue _ (hd1.rd.ext E) (hd2.rd.ext E)) rfl (fun _ w4 e3 hv => ?_)
      subst hv
      replace E := E.trans e3; replace h1 := h1.ext e3; replace h2 := h2.ext e3
      have z3 := e3.size
      refine J_st (R_pickT rfl rfl) rfl (J_st (R_move rfl) rfl ?_)
      refine J_if (gd := 17) rfl rfl (fun hg2 => ?_) (fun hg2 => ?_)
      · refine J_gd rfl rfl (R_fieldAddr0 fl76_2 rfl) rfl (J_gd rfl rfl (R_load sc3 rfl (h1.one 2 rfl)) rfl (J_gd rfl rfl (R_fieldAddr0 fl76_2 rfl) rfl (J_gd rfl rfl (R_load sc3 rfl (h2.one 2 rfl)) rfl (J_gd rfl rfl (R_eql rfl rfl) rfl (J_st (R_pickT rfl rfl) rfl (J_st (R_move rfl) rfl ?_))))))
        refine J_if (gd := 24) rfl rfl (fun hg3 => ?_) (fun hg3 => ?_)
        · refine J_gd rfl rfl (R_fieldAddr0 fl76_3 rfl) rfl (J_gd rfl rfl (R_load sc3 rfl (h1.one 3 rfl)) rfl (J_gd rfl rfl (R_fieldAddr0 fl76_3 rfl) rfl (J_gd rfl rfl (R_load sc3 rfl (h2.one 3 rfl)) rfl (J_gd rfl rfl (R_eql rfl rfl) rfl (J_st (R_pickT rfl rfl) rfl (J_st (R_move rfl) rfl ?_))))))
          refine J_if (gd := 31) rfl rfl (fun hg4 => ?_) (fun hg4 => ?_)
          · refine J_gd rfl rfl (R_fieldAddr0 fl76_4 rfl) rfl (J_gd rfl rfl (R_load sc3 rfl (h1.one 4 rfl)) rfl (J_gd rfl rfl (R_fieldAddr0 fl76_4 rfl) rfl (J_gd rfl rfl (R_load sc3 rfl (h2.one 4 rfl)) rfl (J_gd rfl rfl (R_eql rfl rfl) rfl (J_st (R_pickT rfl rfl) rfl (J_st (R_move rfl) rfl ?_))))))
            refine J_if (gd := 38) rfl rfl (fun hg5 => ?_) (fun hg5 => ?_)
            · refine J_gd rfl rfl (R_fieldAddr0 fl76_5 rfl) rfl (J_gd rfl rfl (R_load sc3 rfl (h1.one 5 rfl)) rfl (J_gd rfl rfl (R_fieldAddr0 fl76_5 rfl) rfl (J_gd rfl rfl (R_load sc3 rfl (h2.one 5 rfl)) rfl (J_gd rfl rfl (R_eql rfl rfl) rfl (J_st (R_pickT rfl rfl) rfl (J_cutEnd ⟨rfl, rfl, rfl, rfl, rfl, congrArg (fun b => some (Value.bool b)) (show (x.got == y.got) = ((((((x.cap == y.cap) && (decide (x.queue = y.queue))) && (x.credits == y.credits)) && (x.back == y.back)) && (x.sent == y.sent)) && (x.got == y.got)) by first | (rw [hg1, hg2, hg3, hg4, hg5] <;> rfl) | (simp [hg1, hg2, hg3, hg4, hg5]; done) | (simp only [nat_nlt] <;> simp)), trivial⟩ ⟨E, (by omega), h1, h2⟩))))))
            · refine J_gdno rfl rfl rfl rfl (J_gdno rfl rfl rfl rfl (J_gdno rfl rfl rfl rfl (J_gdno rfl rfl rfl rfl (J_gdno rfl rfl rfl rfl (J_st (R_pickF rfl rfl) rfl (J_cutEnd ⟨rfl, rfl, rfl, rfl, rfl, congrArg (fun b => some (Value.bool b)) (show false = ((((((x.cap == y.cap) && (decide (x.queue = y.queue))) && (x.credits == y.credits)) && (x.back == y.back)) && (x.sent == y.sent)) && (x.got == y.got)) by first | (rw [hg1, hg2, hg3, hg4, hg5] <;> rfl) | (simp [hg1, hg2, hg3, hg4, hg5]; done) | (simp only [nat_nlt] <;> simp)), trivial⟩ ⟨E, (by omega), h1, h2⟩))))))
          · refine J_gdno rfl rfl rfl rfl (J_gdno rfl rfl rfl rfl (J_gdno rfl rfl rfl rfl (J_gdno rfl rfl rfl rfl (J_gdno rfl rfl rfl rfl (J_st (R_pickF rfl rfl) rfl (J_st (R_move rfl) rfl (J_gdno rfl rfl rfl rfl (J_gdno rfl rfl rfl rfl (J_gdno rfl rfl rfl rfl (J_gdno rfl rfl rfl rfl (J_gdno rfl rfl rfl rfl (J_st (R_pickF rfl rfl) rfl (J_cutEnd ⟨rfl, rfl, rfl, rfl, rfl, congrArg (fun b => some (Value.bool b)) (show false = ((((((x.cap == y.cap) && (decide (x.queue = y.queue))) && (x.credits == y.credits)) && (x.back == y.back)) && (x.sent == y.sent)) && (x.got == y.got)) by first | (rw [hg1, hg2, hg3, hg4] <;> rfl) | (simp [hg1, hg2, hg3, hg4]; done) | (simp only [nat_nlt] <;> simp)), trivial⟩ ⟨E, (by omega), h1, h2⟩)))))))))))))
        · refine J_gdno rfl rfl rfl rfl (J_gdno rfl rfl rfl rfl (J_gdno rfl rfl rfl rfl (J_gdno rfl rfl rfl rfl (J_gdno rfl rfl rfl rfl (J_st (R_pickF rfl rfl) rfl (J_st (R_move rfl) rfl (J_gdno rfl rfl rfl rfl (J_gdno rfl rfl rfl rfl (J_gdno rfl rfl rfl rfl (J_gdno rfl rfl rfl rfl (J_gdno rfl rfl rfl rfl (J_st (R_pickF rfl rfl) rfl (J_st (R_move rfl) rfl (J_gdno rfl rfl rfl rfl (J_gdno rfl rfl rfl rfl (J_gdno rfl rfl rfl rfl (J_gdno rfl rfl rfl rfl (J_gdno rfl rfl rfl rfl (J_st (R_pickF rfl rfl) rfl (J_cutEnd ⟨rfl, rfl, rfl, rfl, rfl, congrArg (fun b => some (Value.bool b)) (show false = ((((((x.cap == y.cap) && (decide (x.queue = y.queue))) && (x.credits == y.credits)) && (x.back == y.back)) && (x.sent == y.sent)) && (x.got == y.got)) by first | (rw [hg1, hg2, hg3] <;> rfl) | (simp [hg1, hg2, hg3]; done) | (simp only [nat_nlt] <;> simp)), trivial⟩ ⟨E, (by omega), h1, h2⟩))))))))))))))))))))
      · refine J_gdno rfl rfl rfl rfl (J_gdno rfl rfl rfl rfl (J_gdno rfl rfl rfl rfl (J_gdno rfl rfl rfl rfl (J_gdno rfl rfl rfl rfl (J_st (R_pickF rfl rfl) rfl (J_st (R_move rfl) rfl (J_gdno rfl rfl rfl rfl (J_gdno rfl rfl rfl rfl (J_gdno rfl rfl rfl rfl (J_gdno rfl rfl rfl rfl (J_gdno rfl rfl rfl rfl (J_st (R_pickF rfl rfl) rfl (J_st (R_move rfl) rfl (J_gdno rfl rfl rfl rfl (J_gdno rfl rfl rfl rfl (J_gdno rfl rfl rfl rfl (J_gdno rfl rfl rfl rfl (J_gdno rfl rfl rfl rfl (J_st (R_pickF rfl rfl) rfl (J_st (R_move rfl) rfl (J_gdno rfl rfl rfl rfl (J_gdno rfl rfl rfl rfl (J_gdno rfl rfl rfl rfl (J_gdno rfl rfl rfl rfl (J_gdno rfl rfl rfl rfl (J_st (R_pickF rfl rfl) rfl (J_cutEnd ⟨rfl, rfl, rfl, rfl, rfl, congrArg (fun b => some (Value.bool b)) (show false = ((((((x.cap == y.cap) && (decide (x.queue = y.queue))) && (x.credits == y.credits)) && (x.back == y.back)) && (x.sent == y.sent)) && (x.got == y.got)) by first | (rw [hg1, hg2] <;> rfl) | (simp [hg1, hg2]; done) | (simp only [nat_nlt] <;> simp)), trivial⟩ ⟨E, (by omega), h1, h2⟩)))))))))))))))))))))))))))
    · refine J_gdno rfl rfl rfl rfl (J_gdno rfl rfl rfl rfl (J_gdno rfl rfl rfl rfl (J_gdno rfl rfl rfl rfl ?_)))
      refine J_ungno rfl rfl rfl rfl ?_
      refine J_st (R_pickF rfl rfl) rfl (J_st (R_move rfl) rfl (J_gdno rfl rfl rfl rfl (J_gdno rfl rfl rfl rfl (J_gdno rfl rfl rfl rfl (J_gdno rfl rfl rfl rfl (J_gdno rfl rfl rfl rfl (J_st (R_pickF rfl rfl) rfl (J_st (R_move rfl) rfl (J_gdno rfl rfl rfl rfl (J_gdno rfl rfl rfl rfl (J_gdno rfl rfl rfl rfl (J_gdno rfl rfl rfl rfl (J_gdno rfl rfl rfl rfl (J_st (R_pickF rfl rfl) rfl (J_st (R_move rfl) rfl (J_gdno rfl rfl rfl rfl (J_gdno rfl rfl rfl rfl (J_gdno rfl rfl rfl rfl (J_gdno rfl rfl rfl rfl (J_gdno rfl rfl rfl rfl (J_st (R_pickF rfl rfl) rfl (J_st (R_move rfl) rfl (J_gdno rfl rfl rfl rfl (J_gdno rfl rfl rfl rfl (J_gdno rfl rfl rfl rfl (J_gdno rfl rfl rfl rfl (J_gdno rfl rfl rfl rfl (J_st (R_pickF rfl rfl) rfl (J_cutEnd ⟨rfl, rfl, rfl, rfl, rfl, congrArg (fun b => some (Value.bool b)) (show false = ((((((x.cap == y.cap) && (decide (x.queue = y.queue))) && (x.credits == y.credits)) && (x.back == y.back)) && (x.sent == y.sent)) && (x.got == y.got)) by first | (rw [hg1] <;> rfl) | (simp [hg1]; done) | (simp only [nat_nlt] <;> simp)), trivial⟩ ⟨E, (by omega), h1, h2⟩)))))))))))))))))))))))))))))
  clear E h1 h2
  rintro w3 ⟨E, z4, h1, h2⟩
  refine J_st (R_assign rfl) rfl (J_done ?_)
  refine S_ret (E_done1 rfl rfl E ?_)
  refine congrArg Value.bool (Bool.eq_iff_iff.2 ?_); cases x; cases y; simp [and_assoc]

set_option maxRecDepth 20000 in
theorem s_SameLink (cx : List Value) (x : Link) (cy : List Value) (y : Link) (w : World) (hx : Dat.R w 0 w.heap.size cx x) (hy : Dat.R w 0 w.heap.size cy y) : Ct Try.prog 34 [.agg cx.toArray, .agg cy.toArray] w (fun v _ => v = .bool (decide (x = y))) := by
  refine ct_of Try.func34 rfl Try.ntmps34 rfl ?_
  obtain ⟨o1, rfl, hd1⟩ := Link.op hx
  obtain ⟨o2, rfl, hd2⟩ := Link.op hy
  refine S_sub [(0, .agg [.int .i64 x.cap, o1, .int .i64 x.credits, .int .i64 x.back, .int .i64 x.sent, .int .i64 x.got].toArray), (1, .agg [.int .i64 y.cap, o2, .int .i64 y.credits, .int .i64 y.back, .int .i64 y.sent, .int .i64 y.got].toArray)] ⟨rfl, rfl, trivial⟩ ?_
  have E : Ext w w := Ext.refl w
  refine S_seq ?_
  refine S_reg [false, false, true] rfl rfl ?_
  refine J_box rfl rfl (fun b1 w1 e1 s1 h1 => ?_)
  have g_b1 : w.heap.size ≤ b1 := by have := E.size; omega
  have y_b1 := h1.lt
  replace E := E.trans e1
  have z1 := e1.size
  refine J_box rfl rfl (fun b2 w2 e2 s2 h2 => ?_)
  have g_b2 : w.heap.size ≤ b2 := by have := E.size; omega
  have y_b2 := h2.lt
  replace E := E.trans e2; replace h1 := h1.ext e2
  have z2 := e2.size
  refine J_st (R_assign rfl) rfl (J_done ?_)
  refine S_seq ?_
  refine S_reg [true, true, true, true, true, true, true, true, true, true, true, true, true, true, true, true, true, true, true, true, true, true, true, true, true, true, true, true, true, true, true, true, true, true, true, true, true, true, false, true, true] rfl rfl ?_
  refine J_st (R_fieldAddr0 fl76_0 rfl) rfl (J_st (R_load sc3 rfl (h1.one 0 rfl)) rfl (J_st (R_fieldAddr0 fl76_0 rfl) rfl (J_st (R_load sc3 rfl (h2.one 0 rfl)) rfl (J_st (R_eql rfl rfl) rfl (J_st (R_move rfl) rfl ?_)))))
  refine J_cut 34 [(0, .agg [.int .i64 x.cap, o1, .int .i64 x.credits, .int .i64 x.back, .int .i64 x.sent, .int .i64 x.got].toArray), (1, .agg [.int .i64 y.cap, o2, .int .i64 y.credits, .int .i64 y.back, .int .i64 y.sent, .int .i64 y.got].toArray), (2, .pointer (some ⟨b1, 0, none⟩)), (3, .pointer (some ⟨b2, 0, none⟩)), (4, .bool false), (44, .bool ((((((x.cap == y.cap) && (x.credits == y.credits)) && (x.back == y.back)) && (x.sent == y.sent)) && (x.got == y.got)) && (decide (x.queue = y.queue))))] (fun w' => Ext w w' ∧ w2.heap.size ≤ w'.heap.size ∧ Blk w' b1 ([.int .i64 x.cap, o1, .int .i64 x.credits, .int .i64 x.back, .int .i64 x.sent, .int .i64 x.got]) ∧ Blk w' b2 ([.int .i64 y.cap, o2, .int .i64 y.credits, .int .i64 y.back, .int .i64 y.sent, .int .i64 y.got])) ?_ ?_
  · refine J_if (gd := 10) rfl rfl (fun hg1 => ?_) (fun hg1 => ?_)
    · refine J_gd rfl rfl (R_fieldAddr0 fl76_2 rfl) rfl (J_gd rfl rfl (R_load sc3 rfl (h1.one 2 rfl)) rfl (J_gd rfl rfl (R_fieldAddr0 fl76_2 rfl) rfl (J_gd rfl rfl (R_load sc3 rfl (h2.one 2 rfl)) rfl (J_gd rfl rfl (R_eql rfl rfl) rfl (J_st (R_pickT rfl rfl) rfl (J_st (R_move rfl) rfl ?_))))))
      refine J_if (gd := 17) rfl rfl (fun hg2 => ?_) (fun hg2 => ?_)
      · refine J_gd rfl rfl (R_fieldAddr0 fl76_3 rfl) rfl (J_gd rfl rfl (R_load sc3 rfl (h1.one 3 rfl)) rfl (J_gd rfl rfl (R_fieldAddr0 fl76_3 rfl) rfl (J_gd rfl rfl (R_load sc3 rfl (h2.one 3 rfl)) rfl (J_gd rfl rfl (R_eql rfl rfl) rfl (J_st (R_pickT rfl rfl) rfl (J_st (R_move rfl) rfl ?_))))))
        refine J_if (gd := 24) rfl rfl (fun hg3 => ?_) (fun hg3 => ?_)
        · refine J_gd rfl rfl (R_fieldAddr0 fl76_4 rfl) rfl (J_gd rfl rfl (R_load sc3 rfl (h1.one 4 rfl)) rfl (J_gd rfl rfl (R_fieldAddr0 fl76_4 rfl) rfl (J_gd rfl rfl (R_load sc3 rfl (h2.one 4 rfl)) rfl (J_gd rfl rfl (R_eql rfl rfl) rfl (J_st (R_pickT rfl rfl) rfl (J_st (R_move rfl) rfl ?_))))))
          refine J_if (gd := 31) rfl rfl (fun hg4 => ?_) (fun hg4 => ?_)
          · refine J_gd rfl rfl (R_fieldAddr0 fl76_5 rfl) rfl (J_gd rfl rfl (R_load sc3 rfl (h1.one 5 rfl)) rfl (J_gd rfl rfl (R_fieldAddr0 fl76_5 rfl) rfl (J_gd rfl rfl (R_load sc3 rfl (h2.one 5 rfl)) rfl (J_gd rfl rfl (R_eql rfl rfl) rfl (J_st (R_pickT rfl rfl) rfl (J_st (R_move rfl) rfl ?_))))))
            refine J_if (gd := 38) rfl rfl (fun hg5 => ?_) (fun hg5 => ?_)
            · refine J_gd rfl rfl (R_fieldAddr0 fl76_1 rfl) rfl (J_gd rfl rfl (R_load sc66 rfl (h1.one 1 rfl)) rfl (J_gd rfl rfl (R_fieldAddr0 fl76_1 rfl) rfl (J_gd rfl rfl (R_load sc66 rfl (h2.one 1 rfl)) rfl ?_)))
              refine J_ung rfl rfl ?_
              refine J_call Try.call56 rfl (s_l05Same o1 x.queue o2 y.queue _ (hd1.rd.ext E) (hd2.rd.ext E)) rfl (fun _ w4 e3 hv => ?_)
              subst hv
              replace E := E.trans e3; replace h1 := h1.ext e3; replace h2 := h2.ext e3
              have z3 := e3.size
              refine J_st (R_pickT rfl rfl) rfl (J_cutEnd ⟨rfl, rfl, rfl, rfl, rfl, congrArg (fun b => some (Value.bool b)) (show (decide (x.queue = y.queue)) = ((((((x.cap == y.cap) && (x.credits == y.credits)) && (x.back == y.back)) && (x.sent == y.sent)) && (x.got == y.got)) && (decide (x.queue = y.queue))) by first | (rw [hg1, hg2, hg3, hg4, hg5] <;> rfl) | (simp [hg1, hg2, hg3, hg4, hg5]; done) | (simp only [nat_nlt] <;> simp)), trivial⟩ ⟨E, (by omega), h1, h2⟩)
            · refine J_gdno rfl rfl rfl rfl (J_gdno rfl rfl rfl rfl (J_gdno rfl rfl rfl rfl (J_gdno rfl rfl rfl rfl ?_)))
              refine J_ungno rfl rfl rfl rfl ?_
              refine J_st (R_pickF rfl rfl) rfl (J_cutEnd ⟨rfl, rfl, rfl, rfl, rfl, congrArg (fun b => some (Value.bool b)) (show false = ((((((x.cap == y.cap) && (x.credits == y.credits)) && (x.back == y.back)) && (x.sent == y.sent)) && (x.got == y.got)) && (decide (x.queue = y.queue))) by first | (rw [hg1, hg2, hg3, hg4, hg5] <;> rfl) | (simp [hg1, hg2, hg3, hg4, hg5]; done) | (simp only [nat_nlt] <;> simp)), trivial⟩ ⟨E, (by omega), h1, h2⟩)
          · refine J_gdno rfl rfl rfl rfl (J_gdno rfl rfl rfl rfl (J_gdno rfl rfl rfl rfl (J_gdno rfl rfl rfl rfl (J_gdno rfl rfl rfl rfl (J_st (R_pickF rfl rfl) rfl (J_st (R_move rfl) rfl (J_gdno rfl rfl rfl rfl (J_gdno rfl rfl rfl rfl (J_gdno rfl rfl rfl rfl (J_gdno rfl rfl rfl rfl ?_))))))))))
            refine J_ungno rfl rfl rfl rfl ?_
            refine J_st (R_pickF rfl rfl) rfl (J_cutEnd ⟨rfl, rfl, rfl, rfl, rfl, congrArg (fun b => some (Value.bool b)) (show false = ((((((x.cap == y.cap) && (x.credits == y.credits)) && (x.back == y.back)) && (x.sent == y.sent)) && (x.got == y.got)) && (decide (x.queue = y.queue))) by first | (rw [hg1, hg2, hg3, hg4] <;> rfl) | (simp [hg1, hg2, hg3, hg4]; done) | (simp only [nat_nlt] <;> simp)), trivial⟩ ⟨E, (by omega), h1, h2⟩)
        · refine J_gdno rfl rfl rfl rfl (J_gdno rfl rfl rfl rfl (J_gdno rfl rfl rfl rfl (J_gdno rfl rfl rfl rfl (J_gdno rfl rfl rfl rfl (J_st (R_pickF rfl rfl) rfl (J_st (R_move rfl) rfl (J_gdno rfl rfl rfl rfl (J_gdno rfl rfl rfl rfl (J_gdno rfl rfl rfl rfl (J_gdno rfl rfl rfl rfl (J_gdno rfl rfl rfl rfl (J_st (R_pickF rfl rfl) rfl (J_st (R_move rfl) rfl (J_gdno rfl rfl rfl rfl (J_gdno rfl rfl rfl rfl (J_gdno rfl rfl rfl rfl (J_gdno rfl rfl rfl rfl ?_)))))))))))))))))
          refine J_ungno rfl rfl rfl rfl ?_
          refine J_st (R_pickF rfl rfl) rfl (J_cutEnd ⟨rfl, rfl, rfl, rfl, rfl, congrArg (fun b => some (Value.bool b)) (show false = ((((((x.cap == y.cap) && (x.credits == y.credits)) && (x.back == y.back)) && (x.sent == y.sent)) && (x.got == y.got)) && (decide (x.queue = y.queue))) by first | (rw [hg1, hg2, hg3] <;> rfl) | (simp [hg1, hg2, hg3]; done) | (simp only [nat_nlt] <;> simp)), trivial⟩ ⟨E, (by omega), h1, h2⟩)
      · refine J_gdno rfl rfl rfl rfl (J_gdno rfl rfl rfl rfl (J_gdno rfl rfl rfl rfl (J_gdno rfl rfl rfl rfl (J_gdno rfl rfl rfl rfl (J_st (R_pickF rfl rfl) rfl (J_st (R_move rfl) rfl (J_gdno rfl rfl rfl rfl (J_gdno rfl rfl rfl rfl (J_gdno rfl rfl rfl rfl (J_gdno rfl rfl rfl rfl (J_gdno rfl rfl rfl rfl (J_st (R_pickF rfl rfl) rfl (J_st (R_move rfl) rfl (J_gdno rfl rfl rfl rfl (J_gdno rfl rfl rfl rfl (J_gdno rfl rfl rfl rfl (J_gdno rfl rfl rfl rfl (J_gdno rfl rfl rfl rfl (J_st (R_pickF rfl rfl) rfl (J_st (R_move rfl) rfl (J_gdno rfl rfl rfl rfl (J_gdno rfl rfl rfl rfl (J_gdno rfl rfl rfl rfl (J_gdno rfl rfl rfl rfl ?_))))))))))))))))))))))))
        refine J_ungno rfl rfl rfl rfl ?_
        refine J_st (R_pickF rfl rfl) rfl (J_cutEnd ⟨rfl, rfl, rfl, rfl, rfl, congrArg (fun b => some (Value.bool b)) (show false = ((((((x.cap == y.cap) && (x.credits == y.credits)) && (x.back == y.back)) && (x.sent == y.sent)) && (x.got == y.got)) && (decide (x.queue = y.queue))) by first | (rw [hg1, hg2] <;> rfl) | (simp [hg1, hg2]; done) | (simp only [nat_nlt] <;> simp)), trivial⟩ ⟨E, (by omega), h1, h2⟩)
    · refine J_gdno rfl rfl rfl rfl (J_gdno rfl rfl rfl rfl (J_gdno rfl rfl rfl rfl (J_gdno rfl rfl rfl rfl (J_gdno rfl rfl rfl rfl (J_st (R_pickF rfl rfl) rfl (J_st (R_move rfl) rfl (J_gdno rfl rfl rfl rfl (J_gdno rfl rfl rfl rfl (J_gdno rfl rfl rfl rfl (J_gdno rfl rfl rfl rfl (J_gdno rfl rfl rfl rfl (J_st (R_pickF rfl rfl) rfl (J_st (R_move rfl) rfl (J_gdno rfl rfl rfl rfl (J_gdno rfl rfl rfl rfl (J_gdno rfl rfl rfl rfl (J_gdno rfl rfl rfl rfl (J_gdno rfl rfl rfl rfl (J_st (R_pickF rfl rfl) rfl (J_st (R_move rfl) rfl (J_gdno rfl rfl rfl rfl (J_gdno rfl rfl rfl rfl (J_gdno rfl rfl rfl rfl (J_gdno rfl rfl rfl rfl (J_gdno rfl rfl rfl rfl (J_st (R_pickF rfl rfl) rfl (J_st (R_move rfl) rfl (J_gdno rfl rfl rfl rfl (J_gdno rfl rfl rfl rfl (J_gdno rfl rfl rfl rfl (J_gdno rfl rfl rfl rfl ?_)))))))))))))))))))))))))))))))
      refine J_ungno rfl rfl rfl rfl ?_
      refine J_st (R_pickF rfl rfl) rfl (J_cutEnd ⟨rfl, rfl, rfl, rfl, rfl, congrArg (fun b => some (Value.bool b)) (show false = ((((((x.cap == y.cap) && (x.credits == y.credits)) && (x.back == y.back)) && (x.sent == y.sent)) && (x.got == y.got)) && (decide (x.queue = y.queue))) by first | (rw [hg1] <;> rfl) | (simp [hg1]; done) | (simp only [nat_nlt] <;> simp)), trivial⟩ ⟨E, (by omega), h1, h2⟩)
  clear E h1 h2
  rintro w3 ⟨E, z4, h1, h2⟩
  refine J_st (R_assign rfl) rfl (J_done ?_)
  refine S_ret (E_done1 rfl rfl E ?_)
  refine congrArg Value.bool (Bool.eq_iff_iff.2 ?_); cases x; cases y; simp; constructor <;> intro h <;> simp_all

set_option maxRecDepth 20000 in
theorem c_EqualFuncWorker (vxs : Value) (xs : List Worker) (vys : Value) (ys : List Worker) (w : World) (hxs : RdD w 0 w.heap.size vxs xs) (hys : RdD w 0 w.heap.size vys ys) : Ct Try.prog 36 [vxs, vys, .func (.func 37) #[] #[]] w (fun v _ => v = .bool (decide (xs = ys))) := by
  refine ct_of Try.func36 rfl Try.ntmps36 rfl ?_
  refine S_sub [(0, vxs), (1, vys), (2, .func (.func 37) #[] #[])] ⟨rfl, rfl, rfl, trivial⟩ ?_
  have E : Ext w w := Ext.refl w
  refine S_seq ?_
  refine S_reg [true] rfl rfl ?_
  refine J_st (R_assign rfl) rfl (J_done ?_)
  refine S_seq ?_
  refine S_seq ?_
  refine S_reg [true, true, true, true, true] rfl rfl ?_
  refine J_st (R_move rfl) rfl (J_st (R_len Try.underlying36 rfl (hxs.ext E).len) rfl (J_st (R_move rfl) rfl (J_st (R_len Try.underlying36 rfl (hys.ext E).len) rfl (J_st (R_neq rfl rfl) rfl (J_done ?_)))))
  refine S_cond rfl (fun hc1 => ?_) (fun hc1 => ?_)
  · have hc1n : ¬ xs.length = ys.length := by first | (have h := of_decide_eq_true hc1; omega) | (have h := hc1; simp at h; omega)
    refine S_seq ?_
    refine S_reg [true] rfl rfl ?_
    refine J_st (R_assign rfl) rfl (J_done ?_)
    refine S_ret (E_done1 rfl rfl E ?_)
    simp [eq_len hc1n]
  · have hc1n : xs.length = ys.length := by first | (have h := of_decide_eq_false hc1; omega) | (have h := hc1; simp at h; omega)
    refine S_skip ?_
    refine S_seq ?_
    refine S_seq ?_
    refine S_reg [true, true, true] rfl rfl ?_
    refine J_st (R_move rfl) rfl (J_st (R_len Try.underlying36 rfl (hxs.ext E).len) rfl (J_st (R_move rfl) rfl (J_done ?_)))
    refine S_block ?_
    refine S_loop (fun (k : Nat) => [(1, vys), (2, .func (.func 37) #[] #[]), (6, .bool false), (15, vxs), (16, .int .i64 ((xs.length : Nat) : Int)), (17, .int .i64 ((k : Nat) : Int))]) (fun (k : Nat) w' => Ext w w' ∧ w.heap.size ≤ w'.heap.size ∧ k ≤ xs.length ∧ xs.take k = ys.take k) (fun (k : Nat) => xs.length - k) 0 ⟨rfl, rfl, rfl, rfl, rfl, rfl, trivial⟩ ⟨E, Nat.le_refl _, Nat.zero_le _, rfl⟩ ?_
    clear E
    rintro k w1 ⟨E, z1, hk, hp⟩
    refine S_seq ?_
    refine S_reg [true] rfl rfl ?_
    refine J_st (R_lss rfl rfl) rfl (J_done ?_)
    refine S_seq ?_
    refine S_cond rfl (fun hc2 => ?_) (fun hc2 => ?_)
    · have hc2n : k < xs.length := by first | (have h := of_decide_eq_true hc2; omega) | (have h := hc2; simp at h; omega)
      refine S_skip ?_
      refine S_seq ?_
      refine S_block ?_
      refine S_seq ?_
      refine S_reg [true, true, true, false, true, false] rfl rfl ?_
      refine J_st (R_move rfl) rfl ?_
      have hi1 : k < xs.length := (by first | assumption | omega)
      obtain ⟨_, hr1, ha1⟩ := RdD.get hxs hi1
      obtain ⟨o1, o2, o3, o4, o5, o6, o7, o8, rfl, hd1, hd2, hd3, hd4, hd5, hd6, hd7, hd8⟩ := Worker.op hr1
      replace ha1 : At w (sblk vxs) (soff vxs + k * 8) [o1, o2, o3, o4, o5, o6, o7, o8] := ha1
      refine J_st (R_index (i := k) sl36 rfl rfl (hxs.ext E).1 hi1) rfl (J_st (R_loadS st72 rfl (ha1.ext E) rfl) rfl ?_)
      refine J_alloc st72 rfl (fun b1 w2 e1 s1 h1 => ?_)
      have g_b1 : w.heap.size ≤ b1 := by have := E.size; omega
      have y_b1 := h1.lt
      replace E := E.trans e1
      have z2 := e1.size
      refine J_st (R_assign rfl) rfl ?_
      refine J_storeS' (cs' := [o1, o2, o3, o4, o5, o6, o7, o8]) st72 rfl rfl rfl (all_cons (RdD.one (hd1.ext E)) (all_cons (RdD.one (hd2.ext E)) (all_cons (RdD.one (hd3.ext E)) (all_cons (RdD.one (hd4.ext E)) (all_cons (RdD.one (hd5.ext E)) (all_cons (RdD.one (hd6.ext E)) (all_cons (RdD.one (hd7.ext E)) (all_cons (RdD.one (hd8.ext E)) rfl)))))))) h1 (Nat.le_of_ble_eq_true rfl) rfl (fun w3 m1 h1' => ?_)
      replace h1 := h1'
      replace E := E.step m1 (fun g hg => by cases hg; omega)
      have z3 := m1.size
      refine J_done ?_
      refine S_seq ?_
      refine S_reg [true, true, true, true, false, false] rfl rfl ?_
      refine J_st (R_move rfl) rfl (J_st (R_move rfl) rfl ?_)
      have hi2 : k < ys.length := (by first | assumption | omega)
      obtain ⟨_, hr2, ha2⟩ := RdD.get hys hi2
      obtain ⟨o9, o10, o11, o12, o13, o14, o15, o16, rfl, hd9, hd10, hd11, hd12, hd13, hd14, hd15, hd16⟩ := Worker.op hr2
      replace ha2 : At w (sblk vys) (soff vys + k * 8) [o9, o10, o11, o12, o13, o14, o15, o16] := ha2
      refine J_st (R_index (i := k) sl36 rfl rfl (hys.ext E).1 hi2) rfl (J_st (R_loadS st72 rfl (ha2.ext E) rfl) rfl ?_)
      refine J_alloc st72 rfl (fun b2 w4 e2 s2 h2 => ?_)
      have g_b2 : w.heap.size ≤ b2 := by have := E.size; omega
      have y_b2 := h2.lt
      replace E := E.trans e2; replace h1 := h1.ext e2
      have z4 := e2.size
      refine J_storeS' (cs' := [o9, o10, o11, o12, o13, o14, o15, o16]) st72 rfl rfl rfl (all_cons (RdD.one (hd9.ext E)) (all_cons (RdD.one (hd10.ext E)) (all_cons (RdD.one (hd11.ext E)) (all_cons (RdD.one (hd12.ext E)) (all_cons (RdD.one (hd13.ext E)) (all_cons (RdD.one (hd14.ext E)) (all_cons (RdD.one (hd15.ext E)) (all_cons (RdD.one (hd16.ext E)) rfl)))))))) h2 (Nat.le_of_ble_eq_true rfl) rfl (fun w5 m2 h2' => ?_)
      replace h2 := h2'
      replace E := E.step m2 (fun g hg => by cases hg; omega); replace h1 := h1.mod m2 (fun g hg => by cases hg; omega)
      have z5 := m2.size
      refine J_done ?_
      refine S_seq ?_
      refine S_reg [true, true, true, false, true] rfl rfl ?_
      refine J_st (R_move rfl) rfl (J_st (R_loadS st72 rfl h1.at rfl) rfl (J_st (R_loadS st72 rfl h2.at rfl) rfl ?_))
      refine J_callV (fs := []) (cs := []) Try.call37 rfl rfl (c_SameWorker [o1, o2, o3, o4, o5, o6, o7, o8] (xs[k]'hi1) [o9, o10, o11, o12, o13, o14, o15, o16] (ys[k]'hi2) _ (Worker.mkR (xs[k]'hi1) (RdD.any (hd1.ext E)) (RdD.any (hd2.ext E)) (RdD.any (hd3.ext E)) (RdD.any (hd4.ext E)) (RdD.any (hd5.ext E)) (RdD.any (hd6.ext E)) (RdD.any (hd7.ext E)) (RdD.any (hd8.ext E))) (Worker.mkR (ys[k]'hi2) (RdD.any (hd9.ext E)) (RdD.any (hd10.ext E)) (RdD.any (hd11.ext E)) (RdD.any (hd12.ext E)) (RdD.any (hd13.ext E)) (RdD.any (hd14.ext E)) (RdD.any (hd15.ext E)) (RdD.any (hd16.ext E)))) rfl (fun _ w6 e3 hv => ?_)
      subst hv
      replace E := E.trans e3; replace h1 := h1.ext e3; replace h2 := h2.ext e3
      have z6 := e3.size
      refine J_st (R_not rfl) rfl (J_done ?_)
      refine S_cond rfl (fun hc3 => ?_) (fun hc3 => ?_)
      · refine S_seq ?_
        refine S_reg [true] rfl rfl ?_
        refine J_st (R_assign rfl) rfl (J_done ?_)
        refine S_ret (E_inB_ret (E_lp_ret (E_inB_ret (E_done1 rfl rfl E ?_))))
        exact eqS_no (by omega) (by omega) (by simpa using hc3)
      · refine S_skip ?_
        refine S_nil (E_inB ?_)
        refine S_reg [true, true] rfl rfl ?_
        refine J_st (R_add rfl rfl (add_one hc2n (hxs.ext E).1.1)) rfl (J_st (R_move rfl) rfl (J_done ?_))
        refine S_nil (E_again (k + 1) (by omega) ⟨rfl, rfl, rfl, rfl, rfl, rfl, trivial⟩ ⟨E, (by omega), (by omega), eqS_step hp (by assumption) (by omega) (by simpa using hc3)⟩)
    · have hc2n : ¬ k < xs.length := by first | (have h := of_decide_eq_false hc2; omega) | (have h := hc2; simp at h; omega)
      refine S_exit (E_lp_exit (E_inB_exit ?_))
      refine S_seq ?_
      refine S_reg [true] rfl rfl ?_
      refine J_st (R_assign rfl) rfl (J_done ?_)
      refine S_ret (E_done1 rfl rfl E ?_)
      exact eqS_yes hp hc1n (by omega)

set_option maxRecDepth 20000 in
theorem c_EqualFuncLink (vxs : Value) (xs : List Link) (vys : Value) (ys : List Link) (w : World) (hxs : RdD w 0 w.heap.size vxs xs) (hys : RdD w 0 w.heap.size vys ys) : Ct Try.prog 38 [vxs, vys, .func (.func 39) #[] #[]] w (fun v _ => v = .bool (decide (xs = ys))) := by
  refine ct_of Try.func38 rfl Try.ntmps38 rfl ?_
  refine S_sub [(0, vxs), (1, vys), (2, .func (.func 39) #[] #[])] ⟨rfl, rfl, rfl, trivial⟩ ?_
  have E : Ext w w := Ext.refl w
  refine S_seq ?_
  refine S_reg [true] rfl rfl ?_
  refine J_st (R_assign rfl) rfl (J_done ?_)
  refine S_seq ?_
  refine S_seq ?_
  refine S_reg [true, true, true, true, true] rfl rfl ?_
  refine J_st (R_move rfl) rfl (J_st (R_len Try.underlying37 rfl (hxs.ext E).len) rfl (J_st (R_move rfl) rfl (J_st (R_len Try.underlying37 rfl (hys.ext E).len) rfl (J_st (R_neq rfl rfl) rfl (J_done ?_)))))
  refine S_cond rfl (fun hc1 => ?_) (fun hc1 => ?_)
  · have hc1n : ¬ xs.length = ys.length := by first | (have h := of_decide_eq_true hc1; omega) | (have h := hc1; simp at h; omega)
    refine S_seq ?_
    refine S_reg [true] rfl rfl ?_
    refine J_st (R_assign rfl) rfl (J_done ?_)
    refine S_ret (E_done1 rfl rfl E ?_)
    simp [eq_len hc1n]
  · have hc1n : xs.length = ys.length := by first | (have h := of_decide_eq_false hc1; omega) | (have h := hc1; simp at h; omega)
    refine S_skip ?_
    refine S_seq ?_
    refine S_seq ?_
    refine S_reg [true, true, true] rfl rfl ?_
    refine J_st (R_move rfl) rfl (J_st (R_len Try.underlying37 rfl (hxs.ext E).len) rfl (J_st (R_move rfl) rfl (J_done ?_)))
    refine S_block ?_
    refine S_loop (fun (k : Nat) => [(1, vys), (2, .func (.func 39) #[] #[]), (6, .bool false), (15, vxs), (16, .int .i64 ((xs.length : Nat) : Int)), (17, .int .i64 ((k : Nat) : Int))]) (fun (k : Nat) w' => Ext w w' ∧ w.heap.size ≤ w'.heap.size ∧ k ≤ xs.length ∧ xs.take k = ys.take k) (fun (k : Nat) => xs.length - k) 0 ⟨rfl, rfl, rfl, rfl, rfl, rfl, trivial⟩ ⟨E, Nat.le_refl _, Nat.zero_le _, rfl⟩ ?_
    clear E
    rintro k w1 ⟨E, z1, hk, hp⟩
    refine S_seq ?_
    refine S_reg [true] rfl rfl ?_
    refine J_st (R_lss rfl rfl) rfl (J_done ?_)
    refine S_seq ?_
    refine S_cond rfl (fun hc2 => ?_) (fun hc2 => ?_)
    · have hc2n : k < xs.length := by first | (have h := of_decide_eq_true hc2; omega) | (have h := hc2; simp at h; omega)
      refine S_skip ?_
      refine S_seq ?_
      refine S_block ?_
      refine S_seq ?_
      refine S_reg [true, true, true, false, true, false] rfl rfl ?_
      refine J_st (R_move rfl) rfl ?_
      have hi1 : k < xs.length := (by first | assumption | omega)
      obtain ⟨_, hr1, ha1⟩ := RdD.get hxs hi1
      obtain ⟨o1, rfl, hd1⟩ := Link.op hr1
      replace ha1 : At w (sblk vxs) (soff vxs + k * 6) [.int .i64 ((xs[k]'hi1).cap), o1, .int .i64 ((xs[k]'hi1).credits), .int .i64 ((xs[k]'hi1).back), .int .i64 ((xs[k]'hi1).sent), .int .i64 ((xs[k]'hi1).got)] := ha1
      refine J_st (R_index (i := k) sl37 rfl rfl (hxs.ext E).1 hi1) rfl (J_st (R_loadS st76 rfl (ha1.ext E) rfl) rfl ?_)
      refine J_alloc st76 rfl (fun b1 w2 e1 s1 h1 => ?_)
      have g_b1 : w.heap.size ≤ b1 := by have := E.size; omega
      have y_b1 := h1.lt
      replace E := E.trans e1
      have z2 := e1.size
      refine J_st (R_assign rfl) rfl ?_
      refine J_storeS' (cs' := [.int .i64 ((xs[k]'hi1).cap), o1, .int .i64 ((xs[k]'hi1).credits), .int .i64 ((xs[k]'hi1).back), .int .i64 ((xs[k]'hi1).sent), .int .i64 ((xs[k]'hi1).got)]) st76 rfl rfl rfl (all_cons rfl (all_cons (RdD.one (hd1.ext E)) (all_cons rfl (all_cons rfl (all_cons rfl (all_cons rfl rfl)))))) h1 (Nat.le_of_ble_eq_true rfl) rfl (fun w3 m1 h1' => ?_)
      replace h1 := h1'
      replace E := E.step m1 (fun g hg => by cases hg; omega)
      have z3 := m1.size
      refine J_done ?_
      refine S_seq ?_
      refine S_reg [true, true, true, true, false, false] rfl rfl ?_
      refine J_st (R_move rfl) rfl (J_st (R_move rfl) rfl ?_)
      have hi2 : k < ys.length := (by first | assumption | omega)
      obtain ⟨_, hr2, ha2⟩ := RdD.get hys hi2
      obtain ⟨o2, rfl, hd2⟩ := Link.op hr2
      replace ha2 : At w (sblk vys) (soff vys + k * 6) [.int .i64 ((ys[k]'hi2).cap), o2, .int .i64 ((ys[k]'hi2).credits), .int .i64 ((ys[k]'hi2).back), .int .i64 ((ys[k]'hi2).sent), .int .i64 ((ys[k]'hi2).got)] := ha2
      refine J_st (R_index (i := k) sl37 rfl rfl (hys.ext E).1 hi2) rfl (J_st (R_loadS st76 rfl (ha2.ext E) rfl) rfl ?_)
      refine J_alloc st76 rfl (fun b2 w4 e2 s2 h2 => ?_)
      have g_b2 : w.heap.size ≤ b2 := by have := E.size; omega
      have y_b2 := h2.lt
      replace E := E.trans e2; replace h1 := h1.ext e2
      have z4 := e2.size
      refine J_storeS' (cs' := [.int .i64 ((ys[k]'hi2).cap), o2, .int .i64 ((ys[k]'hi2).credits), .int .i64 ((ys[k]'hi2).back), .int .i64 ((ys[k]'hi2).sent), .int .i64 ((ys[k]'hi2).got)]) st76 rfl rfl rfl (all_cons rfl (all_cons (RdD.one (hd2.ext E)) (all_cons rfl (all_cons rfl (all_cons rfl (all_cons rfl rfl)))))) h2 (Nat.le_of_ble_eq_true rfl) rfl (fun w5 m2 h2' => ?_)
      replace h2 := h2'
      replace E := E.step m2 (fun g hg => by cases hg; omega); replace h1 := h1.mod m2 (fun g hg => by cases hg; omega)
      have z5 := m2.size
      refine J_done ?_
      refine S_seq ?_
      refine S_reg [true, true, true, false, true] rfl rfl ?_
      refine J_st (R_move rfl) rfl (J_st (R_loadS st76 rfl h1.at rfl) rfl (J_st (R_loadS st76 rfl h2.at rfl) rfl ?_))
      refine J_callV (fs := []) (cs := []) Try.call39 rfl rfl (c_SameLink [.int .i64 ((xs[k]'hi1).cap), o1, .int .i64 ((xs[k]'hi1).credits), .int .i64 ((xs[k]'hi1).back), .int .i64 ((xs[k]'hi1).sent), .int .i64 ((xs[k]'hi1).got)] (xs[k]'hi1) [.int .i64 ((ys[k]'hi2).cap), o2, .int .i64 ((ys[k]'hi2).credits), .int .i64 ((ys[k]'hi2).back), .int .i64 ((ys[k]'hi2).sent), .int .i64 ((ys[k]'hi2).got)] (ys[k]'hi2) _ (Link.mkR (xs[k]'hi1) (RdD.any (hd1.ext E))) (Link.mkR (ys[k]'hi2) (RdD.any (hd2.ext E)))) rfl (fun _ w6 e3 hv => ?_)
      subst hv
      replace E := E.trans e3; replace h1 := h1.ext e3; replace h2 := h2.ext e3
      have z6 := e3.size
      refine J_st (R_not rfl) rfl (J_done ?_)
      refine S_cond rfl (fun hc3 => ?_) (fun hc3 => ?_)
      · refine S_seq ?_
        refine S_reg [true] rfl rfl ?_
        refine J_st (R_assign rfl) rfl (J_done ?_)
        refine S_ret (E_inB_ret (E_lp_ret (E_inB_ret (E_done1 rfl rfl E ?_))))
        exact eqS_no (by omega) (by omega) (by simpa using hc3)
      · refine S_skip ?_
        refine S_nil (E_inB ?_)
        refine S_reg [true, true] rfl rfl ?_
        refine J_st (R_add rfl rfl (add_one hc2n (hxs.ext E).1.1)) rfl (J_st (R_move rfl) rfl (J_done ?_))
        refine S_nil (E_again (k + 1) (by omega) ⟨rfl, rfl, rfl, rfl, rfl, rfl, trivial⟩ ⟨E, (by omega), (by omega), eqS_step hp (by assumption) (by omega) (by simpa using hc3)⟩)
    · have hc2n : ¬ k < xs.length := by first | (have h := of_decide_eq_false hc2; omega) | (have h := hc2; simp at h; omega)
      refine S_exit (E_lp_exit (E_inB_exit ?_))
      refine S_seq ?_
      refine S_reg [true] rfl rfl ?_
      refine J_st (R_assign rfl) rfl (J_done ?_)
      refine S_ret (E_done1 rfl rfl E ?_)
      exact eqS_yes hp hc1n (by omega)

set_option maxRecDepth 20000 in
theorem c_slicesEqualToken (vxs : Value) (xs : List Token) (vys : Value) (ys : List Token) (w : World) (hxs : RdS w vxs xs) (hys : RdS w vys ys) : Ct Try.prog 40 [vxs, vys] w (fun v _ => v = .bool (decide (xs = ys))) := by
  refine ct_of Try.func40 rfl Try.ntmps40 rfl ?_
  refine S_sub [(0, vxs), (1, vys)] ⟨rfl, rfl, trivial⟩ ?_
  have E : Ext w w := Ext.refl w
  refine S_seq ?_
  refine S_reg [true] rfl rfl ?_
  refine J_st (R_assign rfl) rfl (J_done ?_)
  refine S_seq ?_
  refine S_seq ?_
  refine S_reg [true, true, true, true, true] rfl rfl ?_
  refine J_st (R_move rfl) rfl (J_st (R_len Try.underlying38 rfl (hxs.ext E).len) rfl (J_st (R_move rfl) rfl (J_st (R_len Try.underlying38 rfl (hys.ext E).len) rfl (J_st (R_neq rfl rfl) rfl (J_done ?_)))))
  refine S_cond rfl (fun hc1 => ?_) (fun hc1 => ?_)
  · have hc1n : ¬ xs.length = ys.length := by first | (have h := of_decide_eq_true hc1; omega) | (have h := hc1; simp at h; omega)
    refine S_seq ?_
    refine S_reg [true] rfl rfl ?_
    refine J_st (R_assign rfl) rfl (J_done ?_)
    refine S_ret (E_done1 rfl rfl E ?_)
    simp [eq_len hc1n]
  · have hc1n : xs.length = ys.length := by first | (have h := of_decide_eq_false hc1; omega) | (have h := hc1; simp at h; omega)
    refine S_skip ?_
    refine S_seq ?_
    refine S_seq ?_
    refine S_reg [true, true, true] rfl rfl ?_
    refine J_st (R_move rfl) rfl (J_st (R_len Try.underlying38 rfl (hxs.ext E).len) rfl (J_st (R_move rfl) rfl (J_done ?_)))
    refine S_block ?_
    refine S_loop (fun (k : Nat) => [(0, vxs), (1, vys), (4, .bool false), (12, .int .i64 ((xs.length : Nat) : Int)), (13, .int .i64 ((k : Nat) : Int))]) (fun (k : Nat) w' => Ext w w' ∧ w.heap.size ≤ w'.heap.size ∧ k ≤ xs.length ∧ xs.take k = ys.take k) (fun (k : Nat) => xs.length - k) 0 ⟨rfl, rfl, rfl, rfl, rfl, trivial⟩ ⟨E, Nat.le_refl _, Nat.zero_le _, rfl⟩ ?_
    clear E
    rintro k w1 ⟨E, z1, hk, hp⟩
    refine S_seq ?_
    refine S_reg [true] rfl rfl ?_
    refine J_st (R_lss rfl rfl) rfl (J_done ?_)
    refine S_seq ?_
    refine S_cond rfl (fun hc2 => ?_) (fun hc2 => ?_)
    · have hc2n : k < xs.length := by first | (have h := of_decide_eq_true hc2; omega) | (have h := hc2; simp at h; omega)
      refine S_skip ?_
      refine S_seq ?_
      refine S_block ?_
      refine S_seq ?_
      refine S_reg [true, true] rfl rfl ?_
      refine J_st (R_move rfl) rfl (J_st (R_assign rfl) rfl (J_done ?_))
      refine S_seq ?_
      refine S_regD mixed [(0, true), (1, true), (2, true), (3, true), (4, true), (5, true), (6, true), (7, true), (8, true)] (by decide +kernel) rfl (fun w2 e1 => ?_)
      replace E := E.trans e1
      have z2 := e1.size
      refine J_st (R_move rfl) rfl (J_st (R_move rfl) rfl ?_)
      have hi1 : k < xs.length := (by first | assumption | omega)
      refine J_st (R_index (i := k) sl38 rfl rfl (hxs.ext E) hi1) rfl (J_st (R_loadS st54 rfl ((hxs.ext E).get hi1) rfl) rfl (J_st (R_move rfl) rfl (J_st (R_move rfl) rfl ?_)))
      have hi2 : k < ys.length := (by first | assumption | omega)
      refine J_st (R_index (i := k) sl38 rfl rfl (hys.ext E) hi2) rfl (J_st (R_loadS st54 rfl ((hys.ext E).get hi2) rfl) rfl (J_st (R_neqS (ne54 (xs[k]'hi1) (ys[k]'hi2)) eqg54 rfl rfl) rfl (J_done ?_)))
      refine S_cond rfl (fun hc3 => ?_) (fun hc3 => ?_)
      · refine S_seq ?_
        refine S_reg [true] rfl rfl ?_
        refine J_st (R_assign rfl) rfl (J_done ?_)
        refine S_ret (E_inB_ret (E_lp_ret (E_inB_ret (E_done1 rfl rfl E ?_))))
        exact eqS_no (by omega) (by omega) (by simpa using hc3)
      · refine S_skip ?_
        refine S_nil (E_inB ?_)
        refine S_reg [true, true] rfl rfl ?_
        refine J_st (R_add rfl rfl (add_one hc2n hxs.1)) rfl (J_st (R_move rfl) rfl (J_done ?_))
        refine S_nil (E_again (k + 1) (by omega) ⟨rfl, rfl, rfl, rfl, rfl, trivial⟩ ⟨E, (by omega), (by omega), eqS_step hp (by assumption) (by omega) (by simpa using hc3)⟩)
    · have hc2n : ¬ k < xs.length := by first | (have h := of_decide_eq_false hc2; omega) | (have h := hc2; simp at h; omega)
      refine S_exit (E_lp_exit (E_inB_exit ?_))
      refine S_seq ?_
      refine S_reg [true] rfl rfl ?_
      refine J_st (R_assign rfl) rfl (J_done ?_)
      refine S_ret (E_done1 rfl rfl E ?_)
      exact eqS_yes hp hc1n (by omega)

set_option maxRecDepth 20000 in
theorem c_slicesEqualNews (vxs : Value) (xs : List News) (vys : Value) (ys : List News) (w : World) (hxs : RdS w vxs xs) (hys : RdS w vys ys) : Ct Try.prog 41 [vxs, vys] w (fun v _ => v = .bool (decide (xs = ys))) := by
  refine ct_of Try.func41 rfl Try.ntmps41 rfl ?_
  refine S_sub [(0, vxs), (1, vys)] ⟨rfl, rfl, trivial⟩ ?_
  have E : Ext w w := Ext.refl w
  refine S_seq ?_
  refine S_reg [true] rfl rfl ?_
  refine J_st (R_assign rfl) rfl (J_done ?_)
  refine S_seq ?_
  refine S_seq ?_
  refine S_reg [true, true, true, true, true] rfl rfl ?_
  refine J_st (R_move rfl) rfl (J_st (R_len Try.underlying39 rfl (hxs.ext E).len) rfl (J_st (R_move rfl) rfl (J_st (R_len Try.underlying39 rfl (hys.ext E).len) rfl (J_st (R_neq rfl rfl) rfl (J_done ?_)))))
  refine S_cond rfl (fun hc1 => ?_) (fun hc1 => ?_)
  · have hc1n : ¬ xs.length = ys.length := by first | (have h := of_decide_eq_true hc1; omega) | (have h := hc1; simp at h; omega)
    refine S_seq ?_
    refine S_reg [true] rfl rfl ?_
    refine J_st (R_assign rfl) rfl (J_done ?_)
    refine S_ret (E_done1 rfl rfl E ?_)
    simp [eq_len hc1n]
  · have hc1n : xs.length = ys.length := by first | (have h := of_decide_eq_false hc1; omega) | (have h := hc1; simp at h; omega)
    refine S_skip ?_
    refine S_seq ?_
    refine S_seq ?_
    refine S_reg [true, true, true] rfl rfl ?_
    refine J_st (R_move rfl) rfl (J_st (R_len Try.underlying39 rfl (hxs.ext E).len) rfl (J_st (R_move rfl) rfl (J_done ?_)))
    refine S_block ?_
    refine S_loop (fun (k : Nat) => [(0, vxs), (1, vys), (4, .bool false), (12, .int .i64 ((xs.length : Nat) : Int)), (13, .int .i64 ((k : Nat) : Int))]) (fun (k : Nat) w' => Ext w w' ∧ w.heap.size ≤ w'.heap.size ∧ k ≤ xs.length ∧ xs.take k = ys.take k) (fun (k : Nat) => xs.length - k) 0 ⟨rfl, rfl, rfl, rfl, rfl, trivial⟩ ⟨E, Nat.le_refl _, Nat.zero_le _, rfl⟩ ?_
    clear E
    rintro k w1 ⟨E, z1, hk, hp⟩
    refine S_seq ?_
    refine S_reg [true] rfl rfl ?_
    refine J_st (R_lss rfl rfl) rfl (J_done ?_)
    refine S_seq ?_
    refine S_cond rfl (fun hc2 => ?_) (fun hc2 => ?_)
    · have hc2n : k < xs.length := by first | (have h := of_decide_eq_true hc2; omega) | (have h := hc2; simp at h; omega)
      refine S_skip ?_
      refine S_seq ?_
      refine S_block ?_
      refine S_seq ?_
      refine S_reg [true, true] rfl rfl ?_
      refine J_st (R_move rfl) rfl (J_st (R_assign rfl) rfl (J_done ?_))
      refine S_seq ?_
      refine S_regD mixed [(0, true), (1, true), (2, true), (3, true), (4, true), (5, true), (6, true), (7, true), (8, true)] (by decide +kernel) rfl (fun w2 e1 => ?_)
      replace E := E.trans e1
      have z2 := e1.size
      refine J_st (R_move rfl) rfl (J_st (R_move rfl) rfl ?_)
      have hi1 : k < xs.length := (by first | assumption | omega)
      refine J_st (R_index (i := k) sl39 rfl rfl (hxs.ext E) hi1) rfl (J_st (R_loadS st78 rfl ((hxs.ext E).get hi1) rfl) rfl (J_st (R_move rfl) rfl (J_st (R_move rfl) rfl ?_)))
      have hi2 : k < ys.length := (by first | assumption | omega)
      refine J_st (R_index (i := k) sl39 rfl rfl (hys.ext E) hi2) rfl (J_st (R_loadS st78 rfl ((hys.ext E).get hi2) rfl) rfl (J_st (R_neqS (ne78 (xs[k]'hi1) (ys[k]'hi2)) eqg78 rfl rfl) rfl (J_done ?_)))
      refine S_cond rfl (fun hc3 => ?_) (fun hc3 => ?_)
      · refine S_seq ?_
        refine S_reg [true] rfl rfl ?_
        refine J_st (R_assign rfl) rfl (J_done ?_)
        refine S_ret (E_inB_ret (E_lp_ret (E_inB_ret (E_done1 rfl rfl E ?_))))
        exact eqS_no (by omega) (by omega) (by simpa using hc3)
      · refine S_skip ?_
        refine S_nil (E_inB ?_)
        refine S_reg [true, true] rfl rfl ?_
        refine J_st (R_add rfl rfl (add_one hc2n hxs.1)) rfl (J_st (R_move rfl) rfl (J_done ?_))
        refine S_nil (E_again (k + 1) (by omega) ⟨rfl, rfl, rfl, rfl, rfl, trivial⟩ ⟨E, (by omega), (by omega), eqS_step hp (by assumption) (by omega) (by simpa using hc3)⟩)
    · have hc2n : ¬ k < xs.length := by first | (have h := of_decide_eq_false hc2; omega) | (have h := hc2; simp at h; omega)
      refine S_exit (E_lp_exit (E_inB_exit ?_))
      refine S_seq ?_
      refine S_reg [true] rfl rfl ?_
      refine J_st (R_assign rfl) rfl (J_done ?_)
      refine S_ret (E_done1 rfl rfl E ?_)
      exact eqS_yes hp hc1n (by omega)

set_option maxRecDepth 20000 in
theorem c_SameCluster (cx : List Value) (x : Cluster) (cy : List Value) (y : Cluster) (w : World) (hx : Dat.R w 0 w.heap.size cx x) (hy : Dat.R w 0 w.heap.size cy y) : Ct Try.prog 14 [.agg cx.toArray, .agg cy.toArray] w (fun v _ => v = .bool (decide (x = y))) := by
  refine ct_of Try.func14 rfl Try.ntmps14 rfl ?_
  obtain ⟨o1, o2, o3, o4, o5, rfl, hd1, hd2, hd3, hd4, hd5⟩ := Cluster.op hx
  obtain ⟨o6, o7, o8, o9, o10, rfl, hd6, hd7, hd8, hd9, hd10⟩ := Cluster.op hy
  refine S_sub [(0, .agg [o1, .int .i64 x.graph.workers, .int .i64 x.graph.cap, o2, o3, o4, o5].toArray), (1, .agg [o6, .int .i64 y.graph.workers, .int .i64 y.graph.cap, o7, o8, o9, o10].toArray)] ⟨rfl, rfl, trivial⟩ ?_
  have E : Ext w w := Ext.refl w
  refine S_seq ?_
  refine S_reg [false, false, true] rfl rfl ?_
  refine J_box rfl rfl (fun b1 w1 e1 s1 h1 => ?_)
  have g_b1 : w.heap.size ≤ b1 := by have := E.size; omega
  have y_b1 := h1.lt
  replace E := E.trans e1
  have z1 := e1.size
  refine J_box rfl rfl (fun b2 w2 e2 s2 h2 => ?_)
  have g_b2 : w.heap.size ≤ b2 := by have := E.size; omega
  have y_b2 := h2.lt
  replace E := E.trans e2; replace h1 := h1.ext e2
  have z2 := e2.size
  refine J_st (R_assign rfl) rfl (J_done ?_)
  refine S_seq ?_
  refine S_reg [true, true, true, true, false, true, true, true, true, true, false, true, true, true, true, true, true, false, true, true, true, true, true, true, false, true, true, true, true, true, true, false, true, true] rfl rfl ?_
  refine J_st (R_fieldAddr0 fl41_0 rfl) rfl (J_st (R_loadS st35 rfl (h1.part 0 [o1, .int .i64 x.graph.workers, .int .i64 x.graph.cap] rfl) rfl) rfl (J_st (R_fieldAddr0 fl41_0 rfl) rfl (J_st (R_loadS st35 rfl (h2.part 0 [o6, .int .i64 y.graph.workers, .int .i64 y.graph.cap] rfl) rfl) rfl ?_)))
  refine J_call Try.call35 rfl (c_SameGraph [o1, .int .i64 x.graph.workers, .int .i64 x.graph.cap] x.graph [o6, .int .i64 y.graph.workers, .int .i64 y.graph.cap] y.graph _ (Graph.mkR x.graph (RdD.any (hd1.ext E))) (Graph.mkR y.graph (RdD.any (hd6.ext E)))) rfl (fun _ w3 e3 hv => ?_)
  subst hv
  replace E := E.trans e3; replace h1 := h1.ext e3; replace h2 := h2.ext e3
  have z3 := e3.size
  refine J_st (R_move rfl) rfl ?_
  refine J_cut 27 [(0, .agg [o1, .int .i64 x.graph.workers, .int .i64 x.graph.cap, o2, o3, o4, o5].toArray), (1, .agg [o6, .int .i64 y.graph.workers, .int .i64 y.graph.cap, o7, o8, o9, o10].toArray), (2, .pointer (some ⟨b1, 0, none⟩)), (3, .pointer (some ⟨b2, 0, none⟩)), (4, .bool false), (37, .bool (((((decide (x.graph = y.graph)) && (decide (x.workers = y.workers))) && (decide (x.links = y.links))) && (decide (x.tokens = y.tokens))) && (decide (x.news = y.news))))] (fun w' => Ext w w' ∧ w3.heap.size ≤ w'.heap.size ∧ Blk w' b1 ([o1, .int .i64 x.graph.workers, .int .i64 x.graph.cap, o2, o3, o4, o5]) ∧ Blk w' b2 ([o6, .int .i64 y.graph.workers, .int .i64 y.graph.cap, o7, o8, o9, o10])) ?_ ?_
  · refine J_if (gd := 10) rfl rfl (fun hg1 => ?_) (fun hg1 => ?_)
    · refine J_gd rfl rfl (R_fieldAddr0 fl41_1 rfl) rfl (J_gd rfl rfl (R_load sc36 rfl (h1.one 3 rfl)) rfl (J_gd rfl rfl (R_fieldAddr0 fl41_1 rfl) rfl (J_gd rfl rfl (R_load sc36 rfl (h2.one 3 rfl)) rfl ?_)))
      refine J_ung rfl rfl ?_
      refine J_call Try.call36 rfl (c_EqualFuncWorker o2 x.workers o7 y.workers _ (RdD.any (hd2.ext E)) (RdD.any (hd7.ext E))) rfl (fun _ w5 e4 hv => ?_)
      subst hv
      replace E := E.trans e4; replace h1 := h1.ext e4; replace h2 := h2.ext e4
      have z4 := e4.size
      refine J_st (R_pickT rfl rfl) rfl (J_st (R_move rfl) rfl ?_)
      refine J_if (gd := 17) rfl rfl (fun hg2 => ?_) (fun hg2 => ?_)
      · refine J_gd rfl rfl (R_fieldAddr0 fl41_2 rfl) rfl (J_gd rfl rfl (R_load sc37 rfl (h1.one 4 rfl)) rfl (J_gd rfl rfl (R_fieldAddr0 fl41_2 rfl) rfl (J_gd rfl rfl (R_load sc37 rfl (h2.one 4 rfl)) rfl ?_)))
        refine J_ung rfl rfl ?_
        refine J_call Try.call38 rfl (c_EqualFuncLink o3 x.links o8 y.links _ (RdD.any (hd3.ext E)) (RdD.any (hd8.ext E))) rfl (fun _ w6 e5 hv => ?_)
        subst hv
        replace E := E.trans e5; replace h1 := h1.ext e5; replace h2 := h2.ext e5
        have z5 := e5.size
        refine J_st (R_pickT rfl rfl) rfl (J_st (R_move rfl) rfl ?_)
        refine J_if (gd := 24) rfl rfl (fun hg3 => ?_) (fun hg3 => ?_)
        · refine J_gd rfl rfl (R_fieldAddr0 fl41_3 rfl) rfl (J_gd rfl rfl (R_load sc38 rfl (h1.one 5 rfl)) rfl (J_gd rfl rfl (R_fieldAddr0 fl41_3 rfl) rfl (J_gd rfl rfl (R_load sc38 rfl (h2.one 5 rfl)) rfl ?_)))
          refine J_ung rfl rfl ?_
          refine J_call Try.call40 rfl (c_slicesEqualToken o4 x.tokens o9 y.tokens _ (hd4.rd.ext E) (hd9.rd.ext E)) rfl (fun _ w7 e6 hv => ?_)
          subst hv
          replace E := E.trans e6; replace h1 := h1.ext e6; replace h2 := h2.ext e6
          have z6 := e6.size
          refine J_st (R_pickT rfl rfl) rfl (J_st (R_move rfl) rfl ?_)
          refine J_if (gd := 31) rfl rfl (fun hg4 => ?_) (fun hg4 => ?_)
          · refine J_gd rfl rfl (R_fieldAddr0 fl41_4 rfl) rfl (J_gd rfl rfl (R_load sc39 rfl (h1.one 6 rfl)) rfl (J_gd rfl rfl (R_fieldAddr0 fl41_4 rfl) rfl (J_gd rfl rfl (R_load sc39 rfl (h2.one 6 rfl)) rfl ?_)))
            refine J_ung rfl rfl ?_
            refine J_call Try.call41 rfl (c_slicesEqualNews o5 x.news o10 y.news _ (hd5.rd.ext E) (hd10.rd.ext E)) rfl (fun _ w8 e7 hv => ?_)
            subst hv
            replace E := E.trans e7; replace h1 := h1.ext e7; replace h2 := h2.ext e7
            have z7 := e7.size
            refine J_st (R_pickT rfl rfl) rfl (J_cutEnd ⟨rfl, rfl, rfl, rfl, rfl, congrArg (fun b => some (Value.bool b)) (show (decide (x.news = y.news)) = (((((decide (x.graph = y.graph)) && (decide (x.workers = y.workers))) && (decide (x.links = y.links))) && (decide (x.tokens = y.tokens))) && (decide (x.news = y.news))) by first | (rw [hg1, hg2, hg3, hg4] <;> rfl) | (simp [hg1, hg2, hg3, hg4]; done) | (simp only [nat_nlt] <;> simp)), trivial⟩ ⟨E, (by omega), h1, h2⟩)
          · refine J_gdno rfl rfl rfl rfl (J_gdno rfl rfl rfl rfl (J_gdno rfl rfl rfl rfl (J_gdno rfl rfl rfl rfl ?_)))
            refine J_ungno rfl rfl rfl rfl ?_
            refine J_st (R_pickF rfl rfl) rfl (J_cutEnd ⟨rfl, rfl, rfl, rfl, rfl, congrArg (fun b => some (Value.bool b)) (show false = (((((decide (x.graph = y.graph)) && (decide (x.workers = y.workers))) && (decide (x.links = y.links))) && (decide (x.tokens = y.tokens))) && (decide (x.news = y.news))) by first | (rw [hg1, hg2, hg3, hg4] <;> rfl) | (simp [hg1, hg2, hg3, hg4]; done) | (simp only [nat_nlt] <;> simp)), trivial⟩ ⟨E, (by omega), h1, h2⟩)
        · refine J_gdno rfl rfl rfl rfl (J_gdno rfl rfl rfl rfl (J_gdno rfl rfl rfl rfl (J_gdno rfl rfl rfl rfl ?_)))
          refine J_ungno rfl rfl rfl rfl ?_
          refine J_st (R_pickF rfl rfl) rfl (J_st (R_move rfl) rfl (J_gdno rfl rfl rfl rfl (J_gdno rfl rfl rfl rfl (J_gdno rfl rfl rfl rfl (J_gdno rfl rfl rfl rfl ?_)))))
          refine J_ungno rfl rfl rfl rfl ?_
          refine J_st (R_pickF rfl rfl) rfl (J_cutEnd ⟨rfl, rfl, rfl, rfl, rfl, congrArg (fun b => some (Value.bool b)) (show false = (((((decide (x.graph = y.graph)) && (decide (x.workers = y.workers))) && (decide (x.links = y.links))) && (decide (x.tokens = y.tokens))) && (decide (x.news = y.news))) by first | (rw [hg1, hg2, hg3] <;> rfl) | (simp [hg1, hg2, hg3]; done) | (simp only [nat_nlt] <;> simp)), trivial⟩ ⟨E, (by omega), h1, h2⟩)
      · refine J_gdno rfl rfl rfl rfl (J_gdno rfl rfl rfl rfl (J_gdno rfl rfl rfl rfl (J_gdno rfl rfl rfl rfl ?_)))
        refine J_ungno rfl rfl rfl rfl ?_
        refine J_st (R_pickF rfl rfl) rfl (J_st (R_move rfl) rfl (J_gdno rfl rfl rfl rfl (J_gdno rfl rfl rfl rfl (J_gdno rfl rfl rfl rfl (J_gdno rfl rfl rfl rfl ?_)))))
        refine J_ungno rfl rfl rfl rfl ?_
        refine J_st (R_pickF rfl rfl) rfl (J_st (R_move rfl) rfl (J_gdno rfl rfl rfl rfl (J_gdno rfl rfl rfl rfl (J_gdno rfl rfl rfl rfl (J_gdno rfl rfl rfl rfl ?_)))))
        refine J_ungno rfl rfl rfl rfl ?_
        refine J_st (R_pickF rfl rfl) rfl (J_cutEnd ⟨rfl, rfl, rfl, rfl, rfl, congrArg (fun b => some (Value.bool b)) (show false = (((((decide (x.graph = y.graph)) && (decide (x.workers = y.workers))) && (decide (x.links = y.links))) && (decide (x.tokens = y.tokens))) && (decide (x.news = y.news))) by first | (rw [hg1, hg2] <;> rfl) | (simp [hg1, hg2]; done) | (simp only [nat_nlt] <;> simp)), trivial⟩ ⟨E, (by omega), h1, h2⟩)
    · refine J_gdno rfl rfl rfl rfl (J_gdno rfl rfl rfl rfl (J_gdno rfl rfl rfl rfl (J_gdno rfl rfl rfl rfl ?_)))
      refine J_ungno rfl rfl rfl rfl ?_
      refine J_st (R_pickF rfl rfl) rfl (J_st (R_move rfl) rfl (J_gdno rfl rfl rfl rfl (J_gdno rfl rfl rfl rfl (J_gdno rfl rfl rfl rfl (J_gdno rfl rfl rfl rfl ?_)))))
      refine J_ungno rfl rfl rfl rfl ?_
      refine J_st (R_pickF rfl rfl) rfl (J_st (R_move rfl) rfl (J_gdno rfl rfl rfl rfl (J_gdno rfl rfl rfl rfl (J_gdno rfl rfl rfl rfl (J_gdno rfl rfl rfl rfl ?_)))))
      refine J_ungno rfl rfl rfl rfl ?_
      refine J_st (R_pickF rfl rfl) rfl (J_st (R_move rfl) rfl (J_gdno rfl rfl rfl rfl (J_gdno rfl rfl rfl rfl (J_gdno rfl rfl rfl rfl (J_gdno rfl rfl rfl rfl ?_)))))
      refine J_ungno rfl rfl rfl rfl ?_
      refine J_st (R_pickF rfl rfl) rfl (J_cutEnd ⟨rfl, rfl, rfl, rfl, rfl, congrArg (fun b => some (Value.bool b)) (show false = (((((decide (x.graph = y.graph)) && (decide (x.workers = y.workers))) && (decide (x.links = y.links))) && (decide (x.tokens = y.tokens))) && (decide (x.news = y.news))) by first | (rw [hg1] <;> rfl) | (simp [hg1]; done) | (simp only [nat_nlt] <;> simp)), trivial⟩ ⟨E, (by omega), h1, h2⟩)
  clear E h1 h2
  rintro w4 ⟨E, z8, h1, h2⟩
  refine J_st (R_assign rfl) rfl (J_done ?_)
  refine S_ret (E_done1 rfl rfl E ?_)
  refine congrArg Value.bool (Bool.eq_iff_iff.2 ?_); cases x; cases y; simp [and_assoc]

set_option maxHeartbeats 4000000 in
set_option maxRecDepth 20000 in
theorem s_SameCluster (cx : List Value) (x : Cluster) (cy : List Value) (y : Cluster) (w : World) (hx : Dat.R w 0 w.heap.size cx x) (hy : Dat.R w 0 w.heap.size cy y) : Ct Try.prog 13 [.agg cx.toArray, .agg cy.toArray] w (fun v _ => v = .bool (decide (x = y))) := by
  refine ct_of Try.func13 rfl Try.ntmps13 rfl ?_
  obtain ⟨o1, o2, o3, o4, o5, rfl, hd1, hd2, hd3, hd4, hd5⟩ := Cluster.op hx
  obtain ⟨o6, o7, o8, o9, o10, rfl, hd6, hd7, hd8, hd9, hd10⟩ := Cluster.op hy
  refine S_sub [(0, .agg [o1, .int .i64 x.graph.workers, .int .i64 x.graph.cap, o2, o3, o4, o5].toArray), (1, .agg [o6, .int .i64 y.graph.workers, .int .i64 y.graph.cap, o7, o8, o9, o10].toArray)] ⟨rfl, rfl, trivial⟩ ?_
  have E : Ext w w := Ext.refl w
  refine S_seq ?_
  refine S_reg [false, false, true] rfl rfl ?_
  refine J_box rfl rfl (fun b1 w1 e1 s1 h1 => ?_)
  have g_b1 : w.heap.size ≤ b1 := by have := E.size; omega
  have y_b1 := h1.lt
  replace E := E.trans e1
  have z1 := e1.size
  refine J_box rfl rfl (fun b2 w2 e2 s2 h2 => ?_)
  have g_b2 : w.heap.size ≤ b2 := by have := E.size; omega
  have y_b2 := h2.lt
  replace E := E.trans e2; replace h1 := h1.ext e2
  have z2 := e2.size
  refine J_st (R_assign rfl) rfl (J_done ?_)
  refine S_seq ?_
  refine S_seq ?_
  refine S_reg [true, true, true, true, false, true, true, true, true, true, true, true, true, true, true, true, true, true, true, true, true, true, true, true, true, true, true, true, true, true, true, true, true, true, true, true, true, true, true, true, true, true] rfl rfl ?_
  refine J_st (R_fieldAddr0 fl41_0 rfl) rfl (J_st (R_loadS st35 rfl (h1.part 0 [o1, .int .i64 x.graph.workers, .int .i64 x.graph.cap] rfl) rfl) rfl (J_st (R_fieldAddr0 fl41_0 rfl) rfl (J_st (R_loadS st35 rfl (h2.part 0 [o6, .int .i64 y.graph.workers, .int .i64 y.graph.cap] rfl) rfl) rfl ?_)))
  refine J_call Try.call32 rfl (s_SameGraph [o1, .int .i64 x.graph.workers, .int .i64 x.graph.cap] x.graph [o6, .int .i64 y.graph.workers, .int .i64 y.graph.cap] y.graph _ (Graph.mkR x.graph (RdD.any (hd1.ext E))) (Graph.mkR y.graph (RdD.any (hd6.ext E)))) rfl (fun _ w3 e3 hv => ?_)
  subst hv
  replace E := E.trans e3; replace h1 := h1.ext e3; replace h2 := h2.ext e3
  have z3 := e3.size
  refine J_st (R_not rfl) rfl (J_st (R_move rfl) rfl ?_)
  refine J_cut 35 [(0, .agg [o1, .int .i64 x.graph.workers, .int .i64 x.graph.cap, o2, o3, o4, o5].toArray), (1, .agg [o6, .int .i64 y.graph.workers, .int .i64 y.graph.cap, o7, o8, o9, o10].toArray), (2, .pointer (some ⟨b1, 0, none⟩)), (3, .pointer (some ⟨b2, 0, none⟩)), (4, .bool false), (50, .bool (((((!(decide (x.graph = y.graph))) || (((x.workers.length : Nat) : Int) != ((y.workers.length : Nat) : Int))) || (((x.links.length : Nat) : Int) != ((y.links.length : Nat) : Int))) || (((x.tokens.length : Nat) : Int) != ((y.tokens.length : Nat) : Int))) || (((x.news.length : Nat) : Int) != ((y.news.length : Nat) : Int))))] (fun w' => w3 = w') ?_ ?_
  · refine J_if (gd := 15) rfl rfl (fun hg1 => ?_) (fun hg1 => ?_)
    · refine J_gdno rfl rfl rfl rfl (J_gdno rfl rfl rfl rfl (J_gdno rfl rfl rfl rfl (J_gdno rfl rfl rfl rfl (J_gdno rfl rfl rfl rfl (J_gdno rfl rfl rfl rfl (J_gdno rfl rfl rfl rfl (J_st (R_pickT rfl rfl) rfl (J_st (R_move rfl) rfl (J_gdno rfl rfl rfl rfl (J_gdno rfl rfl rfl rfl (J_gdno rfl rfl rfl rfl (J_gdno rfl rfl rfl rfl (J_gdno rfl rfl rfl rfl (J_gdno rfl rfl rfl rfl (J_gdno rfl rfl rfl rfl (J_st (R_pickT rfl rfl) rfl (J_st (R_move rfl) rfl (J_gdno rfl rfl rfl rfl (J_gdno rfl rfl rfl rfl (J_gdno rfl rfl rfl rfl (J_gdno rfl rfl rfl rfl (J_gdno rfl rfl rfl rfl (J_gdno rfl rfl rfl rfl (J_gdno rfl rfl rfl rfl (J_st (R_pickT rfl rfl) rfl (J_st (R_move rfl) rfl (J_gdno rfl rfl rfl rfl (J_gdno rfl rfl rfl rfl (J_gdno rfl rfl rfl rfl (J_gdno rfl rfl rfl rfl (J_gdno rfl rfl rfl rfl (J_gdno rfl rfl rfl rfl (J_gdno rfl rfl rfl rfl (J_st (R_pickT rfl rfl) rfl (J_cutEnd ⟨rfl, rfl, rfl, rfl, rfl, congrArg (fun b => some (Value.bool b)) (show true = (((((!(decide (x.graph = y.graph))) || (((x.workers.length : Nat) : Int) != ((y.workers.length : Nat) : Int))) || (((x.links.length : Nat) : Int) != ((y.links.length : Nat) : Int))) || (((x.tokens.length : Nat) : Int) != ((y.tokens.length : Nat) : Int))) || (((x.news.length : Nat) : Int) != ((y.news.length : Nat) : Int))) by first | (rw [hg1] <;> rfl) | (simp [hg1]; done) | (simp only [nat_nlt] <;> simp)), trivial⟩ rfl)))))))))))))))))))))))))))))))))))
    · refine J_gd rfl rfl (R_fieldAddr0 fl41_1 rfl) rfl (J_gd rfl rfl (R_load sc36 rfl (h1.one 3 rfl)) rfl (J_gd rfl rfl (R_len Try.underlying36 rfl (hd2.ext E).len) rfl (J_gd rfl rfl (R_fieldAddr0 fl41_1 rfl) rfl (J_gd rfl rfl (R_load sc36 rfl (h2.one 3 rfl)) rfl (J_gd rfl rfl (R_len Try.underlying36 rfl (hd7.ext E).len) rfl (J_gd rfl rfl (R_neq rfl rfl) rfl (J_st (R_pickF rfl rfl) rfl (J_st (R_move rfl) rfl ?_))))))))
      refine J_if (gd := 24) rfl rfl (fun hg2 => ?_) (fun hg2 => ?_)
      · have hg2n : ¬ x.workers.length = y.workers.length := by first | (have h := of_decide_eq_true hg2; omega) | (have h := hg2; simp at h; omega)
        refine J_gdno rfl rfl rfl rfl (J_gdno rfl rfl rfl rfl (J_gdno rfl rfl rfl rfl (J_gdno rfl rfl rfl rfl (J_gdno rfl rfl rfl rfl (J_gdno rfl rfl rfl rfl (J_gdno rfl rfl rfl rfl (J_st (R_pickT rfl rfl) rfl (J_st (R_move rfl) rfl (J_gdno rfl rfl rfl rfl (J_gdno rfl rfl rfl rfl (J_gdno rfl rfl rfl rfl (J_gdno rfl rfl rfl rfl (J_gdno rfl rfl rfl rfl (J_gdno rfl rfl rfl rfl (J_gdno rfl rfl rfl rfl (J_st (R_pickT rfl rfl) rfl (J_st (R_move rfl) rfl (J_gdno rfl rfl rfl rfl (J_gdno rfl rfl rfl rfl (J_gdno rfl rfl rfl rfl (J_gdno rfl rfl rfl rfl (J_gdno rfl rfl rfl rfl (J_gdno rfl rfl rfl rfl (J_gdno rfl rfl rfl rfl (J_st (R_pickT rfl rfl) rfl (J_cutEnd ⟨rfl, rfl, rfl, rfl, rfl, congrArg (fun b => some (Value.bool b)) (show true = (((((!(decide (x.graph = y.graph))) || (((x.workers.length : Nat) : Int) != ((y.workers.length : Nat) : Int))) || (((x.links.length : Nat) : Int) != ((y.links.length : Nat) : Int))) || (((x.tokens.length : Nat) : Int) != ((y.tokens.length : Nat) : Int))) || (((x.news.length : Nat) : Int) != ((y.news.length : Nat) : Int))) by first | (rw [hg1, hg2] <;> rfl) | (simp [hg1, hg2]; done) | (simp only [nat_nlt] <;> simp)), trivial⟩ rfl))))))))))))))))))))))))))
      · have hg2n : x.workers.length = y.workers.length := by first | (have h := of_decide_eq_false hg2; omega) | (have h := hg2; simp at h; omega)
        refine J_gd rfl rfl (R_fieldAddr0 fl41_2 rfl) rfl (J_gd rfl rfl (R_load sc37 rfl (h1.one 4 rfl)) rfl (J_gd rfl rfl (R_len Try.underlying37 rfl (hd3.ext E).len) rfl (J_gd rfl rfl (R_fieldAddr0 fl41_2 rfl) rfl (J_gd rfl rfl (R_load sc37 rfl (h2.one 4 rfl)) rfl (J_gd rfl rfl (R_len Try.underlying37 rfl (hd8.ext E).len) rfl (J_gd rfl rfl (R_neq rfl rfl) rfl (J_st (R_pickF rfl rfl) rfl (J_st (R_move rfl) rfl ?_))))))))
        refine J_if (gd := 33) rfl rfl (fun hg3 => ?_) (fun hg3 => ?_)
        · have hg3n : ¬ x.links.length = y.links.length := by first | (have h := of_decide_eq_true hg3; omega) | (have h := hg3; simp at h; omega)
          refine J_gdno rfl rfl rfl rfl (J_gdno rfl rfl rfl rfl (J_gdno rfl rfl rfl rfl (J_gdno rfl rfl rfl rfl (J_gdno rfl rfl rfl rfl (J_gdno rfl rfl rfl rfl (J_gdno rfl rfl rfl rfl (J_st (R_pickT rfl rfl) rfl (J_st (R_move rfl) rfl (J_gdno rfl rfl rfl rfl (J_gdno rfl rfl rfl rfl (J_gdno rfl rfl rfl rfl (J_gdno rfl rfl rfl rfl (J_gdno rfl rfl rfl rfl (J_gdno rfl rfl rfl rfl (J_gdno rfl rfl rfl rfl (J_st (R_pickT rfl rfl) rfl (J_cutEnd ⟨rfl, rfl, rfl, rfl, rfl, congrArg (fun b => some (Value.bool b)) (show true = (((((!(decide (x.graph = y.graph))) || (((x.workers.length : Nat) : Int) != ((y.workers.length : Nat) : Int))) || (((x.links.length : Nat) : Int) != ((y.links.length : Nat) : Int))) || (((x.tokens.length : Nat) : Int) != ((y.tokens.length : Nat) : Int))) || (((x.news.length : Nat) : Int) != ((y.news.length : Nat) : Int))) by first | (rw [hg1, hg2, hg3] <;> rfl) | (simp [hg1, hg2, hg3]; done) | (simp only [nat_nlt] <;> simp)), trivial⟩ rfl)))))))))))))))))
        · have hg3n : x.links.length = y.links.length := by first | (have h := of_decide_eq_false hg3; omega) | (have h := hg3; simp at h; omega)
          refine J_gd rfl rfl (R_fieldAddr0 fl41_3 rfl) rfl (J_gd rfl rfl (R_load sc38 rfl (h1.one 5 rfl)) rfl (J_gd rfl rfl (R_len Try.underlying38 rfl (hd4.ext E).len) rfl (J_gd rfl rfl (R_fieldAddr0 fl41_3 rfl) rfl (J_gd rfl rfl (R_load sc38 rfl (h2.one 5 rfl)) rfl (J_gd rfl rfl (R_len Try.underlying38 rfl (hd9.ext E).len) rfl (J_gd rfl rfl (R_neq rfl rfl) rfl (J_st (R_pickF rfl rfl) rfl (J_st (R_move rfl) rfl ?_))))))))
          refine J_if (gd := 42) rfl rfl (fun hg4 => ?_) (fun hg4 => ?_)
          · have hg4n : ¬ x.tokens.length = y.tokens.length := by first | (have h := of_decide_eq_true hg4; omega) | (have h := hg4; simp at h; omega)
            refine J_gdno rfl rfl rfl rfl (J_gdno rfl rfl rfl rfl (J_gdno rfl rfl rfl rfl (J_gdno rfl rfl rfl rfl (J_gdno rfl rfl rfl rfl (J_gdno rfl rfl rfl rfl (J_gdno rfl rfl rfl rfl (J_st (R_pickT rfl rfl) rfl (J_cutEnd ⟨rfl, rfl, rfl, rfl, rfl, congrArg (fun b => some (Value.bool b)) (show true = (((((!(decide (x.graph = y.graph))) || (((x.workers.length : Nat) : Int) != ((y.workers.length : Nat) : Int))) || (((x.links.length : Nat) : Int) != ((y.links.length : Nat) : Int))) || (((x.tokens.length : Nat) : Int) != ((y.tokens.length : Nat) : Int))) || (((x.news.length : Nat) : Int) != ((y.news.length : Nat) : Int))) by first | (rw [hg1, hg2, hg3, hg4] <;> rfl) | (simp [hg1, hg2, hg3, hg4]; done) | (simp only [nat_nlt] <;> simp)), trivial⟩ rfl))))))))
          · have hg4n : x.tokens.length = y.tokens.length := by first | (have h := of_decide_eq_false hg4; omega) | (have h := hg4; simp at h; omega)
            refine J_gd rfl rfl (R_fieldAddr0 fl41_4 rfl) rfl (J_gd rfl rfl (R_load sc39 rfl (h1.one 6 rfl)) rfl (J_gd rfl rfl (R_len Try.underlying39 rfl (hd5.ext E).len) rfl (J_gd rfl rfl (R_fieldAddr0 fl41_4 rfl) rfl (J_gd rfl rfl (R_load sc39 rfl (h2.one 6 rfl)) rfl (J_gd rfl rfl (R_len Try.underlying39 rfl (hd10.ext E).len) rfl (J_gd rfl rfl (R_neq rfl rfl) rfl (J_st (R_pickF rfl rfl) rfl (J_cutEnd ⟨rfl, rfl, rfl, rfl, rfl, congrArg (fun b => some (Value.bool b)) (show (((x.news.length : Nat) : Int) != ((y.news.length : Nat) : Int)) = (((((!(decide (x.graph = y.graph))) || (((x.workers.length : Nat) : Int) != ((y.workers.length : Nat) : Int))) || (((x.links.length : Nat) : Int) != ((y.links.length : Nat) : Int))) || (((x.tokens.length : Nat) : Int) != ((y.tokens.length : Nat) : Int))) || (((x.news.length : Nat) : Int) != ((y.news.length : Nat) : Int))) by first | (rw [hg1, hg2, hg3, hg4] <;> rfl) | (simp [hg1, hg2, hg3, hg4]; done) | (simp only [nat_nlt] <;> simp)), trivial⟩ rfl))))))))
  rintro _ rfl
  refine J_done ?_
  refine S_cond rfl (fun hc1 => ?_) (fun hc1 => ?_)
  · refine S_seq ?_
    refine S_reg [true] rfl rfl ?_
    refine J_st (R_assign rfl) rfl (J_done ?_)
    refine S_ret (E_done1 rfl rfl E ?_)
    exact bf fun h => by have h := of_decide_eq_true h; subst h; simp at hc1
  · refine S_skip ?_
    refine S_seq ?_
    refine S_seq ?_
    refine S_reg [true] rfl rfl ?_
    refine J_st (R_assign rfl) rfl (J_done ?_)
    refine S_block ?_
    refine S_loop (fun (k : Nat) => [(2, .pointer (some ⟨b1, 0, none⟩)), (3, .pointer (some ⟨b2, 0, none⟩)), (4, .bool false), (5, .int .i64 ((k : Nat) : Int))]) (fun (k : Nat) w' => Ext w w' ∧ w3.heap.size ≤ w'.heap.size ∧ Blk w' b1 ([o1, .int .i64 x.graph.workers, .int .i64 x.graph.cap, o2, o3, o4, o5]) ∧ Blk w' b2 ([o6, .int .i64 y.graph.workers, .int .i64 y.graph.cap, o7, o8, o9, o10]) ∧ k ≤ x.workers.length ∧ x.workers.take k = y.workers.take k) (fun (k : Nat) => x.workers.length - k) 0 ⟨rfl, rfl, rfl, rfl, trivial⟩ ⟨E, Nat.le_refl _, h1, h2, Nat.zero_le _, rfl⟩ ?_
    clear E h1 h2
    rintro k w5 ⟨E, z4, h1, h2, hk, hp1⟩
    have hle1 := sc_len1 hc1
    refine S_seq ?_
    refine S_seq ?_
    refine S_reg [true, true, true, true, true] rfl rfl ?_
    refine J_st (R_move rfl) rfl (J_st (R_fieldAddr0 fl41_1 rfl) rfl (J_st (R_load sc36 rfl (h1.one 3 rfl)) rfl (J_st (R_len Try.underlying36 rfl (hd2.ext E).len) rfl (J_st (R_lss rfl rfl) rfl (J_done ?_)))))
    refine S_cond rfl (fun hc2 => ?_) (fun hc2 => ?_)
    · have hc2n : k < x.workers.length := by first | (have h := of_decide_eq_true hc2; omega) | (have h := hc2; simp at h; omega)
      refine S_skip ?_
      refine S_seq ?_
      refine S_block ?_
      refine S_seq ?_
      refine S_regD mixed [(0, true), (1, true), (2, true), (3, true), (4, true), (5, true), (6, true), (7, true), (8, true), (9, true), (10, false), (11, true)] (by decide +kernel) rfl (fun w6 e4 => ?_)
      replace E := E.trans e4; replace h1 := h1.ext e4; replace h2 := h2.ext e4
      have z5 := e4.size
      refine J_st (R_fieldAddr0 fl41_1 rfl) rfl (J_st (R_load sc36 rfl (h1.one 3 rfl)) rfl (J_st (R_move rfl) rfl ?_))
      have hi1 : k < x.workers.length := (by first | assumption | omega)
      obtain ⟨_, hr1, ha1⟩ := RdD.get hd2 hi1
      obtain ⟨o11, o12, o13, o14, o15, o16, o17, o18, rfl, hd11, hd12, hd13, hd14, hd15, hd16, hd17, hd18⟩ := Worker.op hr1
      replace ha1 : At w (sblk o2) (soff o2 + k * 8) [o11, o12, o13, o14, o15, o16, o17, o18] := ha1
      refine J_st (R_index (i := k) sl36 rfl rfl (hd2.ext E).1 hi1) rfl (J_st (R_loadS st72 rfl (ha1.ext E) rfl) rfl (J_st (R_fieldAddr0 fl41_1 rfl) rfl (J_st (R_load sc36 rfl (h2.one 3 rfl)) rfl (J_st (R_move rfl) rfl ?_))))
      have hi2 : k < y.workers.length := (by first | assumption | omega)
      obtain ⟨_, hr2, ha2⟩ := RdD.get hd7 hi2
      obtain ⟨o19, o20, o21, o22, o23, o24, o25, o26, rfl, hd19, hd20, hd21, hd22, hd23, hd24, hd25, hd26⟩ := Worker.op hr2
      replace ha2 : At w (sblk o7) (soff o7 + k * 8) [o19, o20, o21, o22, o23, o24, o25, o26] := ha2
      refine J_st (R_index (i := k) sl36 rfl rfl (hd7.ext E).1 hi2) rfl (J_st (R_loadS st72 rfl (ha2.ext E) rfl) rfl ?_)
      refine J_call Try.call33 rfl (s_SameWorker [o11, o12, o13, o14, o15, o16, o17, o18] (x.workers[k]'hi1) [o19, o20, o21, o22, o23, o24, o25, o26] (y.workers[k]'hi2) _ (Worker.mkR (x.workers[k]'hi1) (RdD.any (hd11.ext E)) (RdD.any (hd12.ext E)) (RdD.any (hd13.ext E)) (RdD.any (hd14.ext E)) (RdD.any (hd15.ext E)) (RdD.any (hd16.ext E)) (RdD.any (hd17.ext E)) (RdD.any (hd18.ext E))) (Worker.mkR (y.workers[k]'hi2) (RdD.any (hd19.ext E)) (RdD.any (hd20.ext E)) (RdD.any (hd21.ext E)) (RdD.any (hd22.ext E)) (RdD.any (hd23.ext E)) (RdD.any (hd24.ext E)) (RdD.any (hd25.ext E)) (RdD.any (hd26.ext E)))) rfl (fun _ w7 e5 hv => ?_)
      subst hv
      replace E := E.trans e5; replace h1 := h1.ext e5; replace h2 := h2.ext e5
      have z6 := e5.size
      refine J_st (R_not rfl) rfl (J_done ?_)
      refine S_cond rfl (fun hc3 => ?_) (fun hc3 => ?_)
      · refine S_seq ?_
        refine S_reg [true] rfl rfl ?_
        refine J_st (R_assign rfl) rfl (J_done ?_)
        refine S_ret (E_inB_ret (E_lp_ret (E_inB_ret (E_done1 rfl rfl E ?_))))
        exact bf fun h => by have h := of_decide_eq_true h; subst h; simp at hc3
      · refine S_skip ?_
        refine S_nil (E_inB ?_)
        refine S_reg [true, true, true] rfl rfl ?_
        refine J_st (R_move rfl) rfl (J_st (R_add rfl rfl (add_one hc2n (hd2.ext E).1.1)) rfl (J_st (R_assign rfl) rfl (J_done ?_)))
        refine S_nil (E_again (k + 1) (by omega) ⟨rfl, rfl, rfl, rfl, trivial⟩ ⟨E, (by omega), h1, h2, (by omega), eqS_step hp1 (by assumption) (by omega) (by simpa using hc3)⟩)
    · have hc2n : ¬ k < x.workers.length := by first | (have h := of_decide_eq_false hc2; omega) | (have h := hc2; simp at h; omega)
      refine S_exit (E_lp_exit (E_inB_exit ?_))
      refine S_seq ?_
      refine S_seq ?_
      refine S_reg [true] rfl rfl ?_
      refine J_st (R_assign rfl) rfl (J_done ?_)
      refine S_block ?_
      refine S_loop (fun (k : Nat) => [(2, .pointer (some ⟨b1, 0, none⟩)), (3, .pointer (some ⟨b2, 0, none⟩)), (4, .bool false), (6, .int .i64 ((k : Nat) : Int))]) (fun (k : Nat) w' => Ext w w' ∧ w5.heap.size ≤ w'.heap.size ∧ Blk w' b1 ([o1, .int .i64 x.graph.workers, .int .i64 x.graph.cap, o2, o3, o4, o5]) ∧ Blk w' b2 ([o6, .int .i64 y.graph.workers, .int .i64 y.graph.cap, o7, o8, o9, o10]) ∧ k ≤ x.links.length ∧ x.links.take k = y.links.take k) (fun (k : Nat) => x.links.length - k) 0 ⟨rfl, rfl, rfl, rfl, trivial⟩ ⟨E, Nat.le_refl _, h1, h2, Nat.zero_le _, rfl⟩ ?_
      clear E h1 h2
      rintro k w8 ⟨E, z7, h1, h2, hk, hp2⟩
      have hle2 := sc_len2 hc1
      refine S_seq ?_
      refine S_seq ?_
      refine S_reg [true, true, true, true, true] rfl rfl ?_
      refine J_st (R_move rfl) rfl (J_st (R_fieldAddr0 fl41_2 rfl) rfl (J_st (R_load sc37 rfl (h1.one 4 rfl)) rfl (J_st (R_len Try.underlying37 rfl (hd3.ext E).len) rfl (J_st (R_lss rfl rfl) rfl (J_done ?_)))))
      refine S_cond rfl (fun hc4 => ?_) (fun hc4 => ?_)
      · have hc4n : k < x.links.length := by first | (have h := of_decide_eq_true hc4; omega) | (have h := hc4; simp at h; omega)
        refine S_skip ?_
        refine S_seq ?_
        refine S_block ?_
        refine S_seq ?_
        refine S_regD mixed [(0, true), (1, true), (2, true), (3, true), (4, true), (5, true), (6, true), (7, true), (8, true), (9, true), (10, false), (11, true)] (by decide +kernel) rfl (fun w9 e6 => ?_)
        replace E := E.trans e6; replace h1 := h1.ext e6; replace h2 := h2.ext e6
        have z8 := e6.size
        refine J_st (R_fieldAddr0 fl41_2 rfl) rfl (J_st (R_load sc37 rfl (h1.one 4 rfl)) rfl (J_st (R_move rfl) rfl ?_))
        have hi3 : k < x.links.length := (by first | assumption | omega)
        obtain ⟨_, hr3, ha3⟩ := RdD.get hd3 hi3
        obtain ⟨o27, rfl, hd27⟩ := Link.op hr3
        replace ha3 : At w (sblk o3) (soff o3 + k * 6) [.int .i64 ((x.links[k]'hi3).cap), o27, .int .i64 ((x.links[k]'hi3).credits), .int .i64 ((x.links[k]'hi3).back), .int .i64 ((x.links[k]'hi3).sent), .int .i64 ((x.links[k]'hi3).got)] := ha3
        refine J_st (R_index (i := k) sl37 rfl rfl (hd3.ext E).1 hi3) rfl (J_st (R_loadS st76 rfl (ha3.ext E) rfl) rfl (J_st (R_fieldAddr0 fl41_2 rfl) rfl (J_st (R_load sc37 rfl (h2.one 4 rfl)) rfl (J_st (R_move rfl) rfl ?_))))
        have hi4 : k < y.links.length := (by first | assumption | omega)
        obtain ⟨_, hr4, ha4⟩ := RdD.get hd8 hi4
        obtain ⟨o28, rfl, hd28⟩ := Link.op hr4
        replace ha4 : At w (sblk o8) (soff o8 + k * 6) [.int .i64 ((y.links[k]'hi4).cap), o28, .int .i64 ((y.links[k]'hi4).credits), .int .i64 ((y.links[k]'hi4).back), .int .i64 ((y.links[k]'hi4).sent), .int .i64 ((y.links[k]'hi4).got)] := ha4
        refine J_st (R_index (i := k) sl37 rfl rfl (hd8.ext E).1 hi4) rfl (J_st (R_loadS st76 rfl (ha4.ext E) rfl) rfl ?_)
        refine J_call Try.call34 rfl (s_SameLink [.int .i64 ((x.links[k]'hi3).cap), o27, .int .i64 ((x.links[k]'hi3).credits), .int .i64 ((x.links[k]'hi3).back), .int .i64 ((x.links[k]'hi3).sent), .int .i64 ((x.links[k]'hi3).got)] (x.links[k]'hi3) [.int .i64 ((y.links[k]'hi4).cap), o28, .int .i64 ((y.links[k]'hi4).credits), .int .i64 ((y.links[k]'hi4).back), .int .i64 ((y.links[k]'hi4).sent), .int .i64 ((y.links[k]'hi4).got)] (y.links[k]'hi4) _ (Link.mkR (x.links[k]'hi3) (RdD.any (hd27.ext E))) (Link.mkR (y.links[k]'hi4) (RdD.any (hd28.ext E)))) rfl (fun _ w10 e7 hv => ?_)
        subst hv
        replace E := E.trans e7; replace h1 := h1.ext e7; replace h2 := h2.ext e7
        have z9 := e7.size
        refine J_st (R_not rfl) rfl (J_done ?_)
        refine S_cond rfl (fun hc5 => ?_) (fun hc5 => ?_)
        · refine S_seq ?_
          refine S_reg [true] rfl rfl ?_
          refine J_st (R_assign rfl) rfl (J_done ?_)
          refine S_ret (E_inB_ret (E_lp_ret (E_inB_ret (E_done1 rfl rfl E ?_))))
          exact bf fun h => by have h := of_decide_eq_true h; subst h; simp at hc5
        · refine S_skip ?_
          refine S_nil (E_inB ?_)
          refine S_reg [true, true, true] rfl rfl ?_
          refine J_st (R_move rfl) rfl (J_st (R_add rfl rfl (add_one hc4n (hd3.ext E).1.1)) rfl (J_st (R_assign rfl) rfl (J_done ?_)))
          refine S_nil (E_again (k + 1) (by omega) ⟨rfl, rfl, rfl, rfl, trivial⟩ ⟨E, (by omega), h1, h2, (by omega), eqS_step hp2 (by assumption) (by omega) (by simpa using hc5)⟩)
      · have hc4n : ¬ k < x.links.length := by first | (have h := of_decide_eq_false hc4; omega) | (have h := hc4; simp at h; omega)
        refine S_exit (E_lp_exit (E_inB_exit ?_))
        refine S_seq ?_
        refine S_seq ?_
        refine S_reg [true] rfl rfl ?_
        refine J_st (R_assign rfl) rfl (J_done ?_)
        refine S_block ?_
        refine S_loop (fun (k : Nat) => [(2, .pointer (some ⟨b1, 0, none⟩)), (3, .pointer (some ⟨b2, 0, none⟩)), (4, .bool false), (7, .int .i64 ((k : Nat) : Int))]) (fun (k : Nat) w' => Ext w w' ∧ w8.heap.size ≤ w'.heap.size ∧ Blk w' b1 ([o1, .int .i64 x.graph.workers, .int .i64 x.graph.cap, o2, o3, o4, o5]) ∧ Blk w' b2 ([o6, .int .i64 y.graph.workers, .int .i64 y.graph.cap, o7, o8, o9, o10]) ∧ k ≤ x.tokens.length ∧ x.tokens.take k = y.tokens.take k) (fun (k : Nat) => x.tokens.length - k) 0 ⟨rfl, rfl, rfl, rfl, trivial⟩ ⟨E, Nat.le_refl _, h1, h2, Nat.zero_le _, rfl⟩ ?_
        clear E h1 h2
        rintro k w11 ⟨E, z10, h1, h2, hk, hp3⟩
        have hle3 := sc_len3 hc1
        refine S_seq ?_
        refine S_seq ?_
        refine S_reg [true, true, true, true, true] rfl rfl ?_
        refine J_st (R_move rfl) rfl (J_st (R_fieldAddr0 fl41_3 rfl) rfl (J_st (R_load sc38 rfl (h1.one 5 rfl)) rfl (J_st (R_len Try.underlying38 rfl (hd4.ext E).len) rfl (J_st (R_lss rfl rfl) rfl (J_done ?_)))))
        refine S_cond rfl (fun hc6 => ?_) (fun hc6 => ?_)
        · have hc6n : k < x.tokens.length := by first | (have h := of_decide_eq_true hc6; omega) | (have h := hc6; simp at h; omega)
          refine S_skip ?_
          refine S_seq ?_
          refine S_block ?_
          refine S_seq ?_
          refine S_regD mixed [(0, true), (1, true), (2, true), (3, true), (4, true), (5, true), (6, true), (7, true), (8, true), (9, true), (10, true)] (by decide +kernel) rfl (fun w12 e8 => ?_)
          replace E := E.trans e8; replace h1 := h1.ext e8; replace h2 := h2.ext e8
          have z11 := e8.size
          refine J_st (R_fieldAddr0 fl41_3 rfl) rfl (J_st (R_load sc38 rfl (h1.one 5 rfl)) rfl (J_st (R_move rfl) rfl ?_))
          have hi5 : k < x.tokens.length := (by first | assumption | omega)
          refine J_st (R_index (i := k) sl38 rfl rfl (hd4.rd.ext E) hi5) rfl (J_st (R_loadS st54 rfl ((hd4.rd.ext E).get hi5) rfl) rfl (J_st (R_fieldAddr0 fl41_3 rfl) rfl (J_st (R_load sc38 rfl (h2.one 5 rfl)) rfl (J_st (R_move rfl) rfl ?_))))
          have hi6 : k < y.tokens.length := (by first | assumption | omega)
          refine J_st (R_index (i := k) sl38 rfl rfl (hd9.rd.ext E) hi6) rfl (J_st (R_loadS st54 rfl ((hd9.rd.ext E).get hi6) rfl) rfl (J_st (R_neqS (ne54 (x.tokens[k]'hi5) (y.tokens[k]'hi6)) eqg54 rfl rfl) rfl (J_done ?_)))
          refine S_cond rfl (fun hc7 => ?_) (fun hc7 => ?_)
          · refine S_seq ?_
            refine S_reg [true] rfl rfl ?_
            refine J_st (R_assign rfl) rfl (J_done ?_)
            refine S_ret (E_inB_ret (E_lp_ret (E_inB_ret (E_done1 rfl rfl E ?_))))
            exact bf fun h => by have h := of_decide_eq_true h; subst h; simp at hc7
          · refine S_skip ?_
            refine S_nil (E_inB ?_)
            refine S_reg [true, true, true] rfl rfl ?_
            refine J_st (R_move rfl) rfl (J_st (R_add rfl rfl (add_one hc6n (hd4.ext E).1.1)) rfl (J_st (R_assign rfl) rfl (J_done ?_)))
            refine S_nil (E_again (k + 1) (by omega) ⟨rfl, rfl, rfl, rfl, trivial⟩ ⟨E, (by omega), h1, h2, (by omega), eqS_step hp3 (by assumption) (by omega) (by simpa using hc7)⟩)
        · have hc6n : ¬ k < x.tokens.length := by first | (have h := of_decide_eq_false hc6; omega) | (have h := hc6; simp at h; omega)
          refine S_exit (E_lp_exit (E_inB_exit ?_))
          refine S_seq ?_
          refine S_seq ?_
          refine S_reg [true] rfl rfl ?_
          refine J_st (R_assign rfl) rfl (J_done ?_)
          refine S_block ?_
          refine S_loop (fun (k : Nat) => [(2, .pointer (some ⟨b1, 0, none⟩)), (3, .pointer (some ⟨b2, 0, none⟩)), (4, .bool false), (8, .int .i64 ((k : Nat) : Int))]) (fun (k : Nat) w' => Ext w w' ∧ w11.heap.size ≤ w'.heap.size ∧ Blk w' b1 ([o1, .int .i64 x.graph.workers, .int .i64 x.graph.cap, o2, o3, o4, o5]) ∧ Blk w' b2 ([o6, .int .i64 y.graph.workers, .int .i64 y.graph.cap, o7, o8, o9, o10]) ∧ k ≤ x.news.length ∧ x.news.take k = y.news.take k) (fun (k : Nat) => x.news.length - k) 0 ⟨rfl, rfl, rfl, rfl, trivial⟩ ⟨E, Nat.le_refl _, h1, h2, Nat.zero_le _, rfl⟩ ?_
          clear E h1 h2
          rintro k w13 ⟨E, z12, h1, h2, hk, hp4⟩
          have hle4 := sc_len4 hc1
          refine S_seq ?_
          refine S_seq ?_
          refine S_reg [true, true, true, true, true] rfl rfl ?_
          refine J_st (R_move rfl) rfl (J_st (R_fieldAddr0 fl41_4 rfl) rfl (J_st (R_load sc39 rfl (h1.one 6 rfl)) rfl (J_st (R_len Try.underlying39 rfl (hd5.ext E).len) rfl (J_st (R_lss rfl rfl) rfl (J_done ?_)))))
          refine S_cond rfl (fun hc8 => ?_) (fun hc8 => ?_)
          · have hc8n : k < x.news.length := by first | (have h := of_decide_eq_true hc8; omega) | (have h := hc8; simp at h; omega)
            refine S_skip ?_
            refine S_seq ?_
            refine S_block ?_
            refine S_seq ?_
            refine S_regD mixed [(0, true), (1, true), (2, true), (3, true), (4, true), (5, true), (6, true), (7, true), (8, true), (9, true), (10, true)] (by decide +kernel) rfl (fun w14 e9 => ?_)
            replace E := E.trans e9; replace h1 := h1.ext e9; replace h2 := h2.ext e9
            have z13 := e9.size
            refine J_st (R_fieldAddr0 fl41_4 rfl) rfl (J_st (R_load sc39 rfl (h1.one 6 rfl)) rfl (J_st (R_move rfl) rfl ?_))
            have hi7 : k < x.news.length := (by first | assumption | omega)
            refine J_st (R_index (i := k) sl39 rfl rfl (hd5.rd.ext E) hi7) rfl (J_st (R_loadS st78 rfl ((hd5.rd.ext E).get hi7) rfl) rfl (J_st (R_fieldAddr0 fl41_4 rfl) rfl (J_st (R_load sc39 rfl (h2.one 6 rfl)) rfl (J_st (R_move rfl) rfl ?_))))
            have hi8 : k < y.news.length := (by first | assumption | omega)
            refine J_st (R_index (i := k) sl39 rfl rfl (hd10.rd.ext E) hi8) rfl (J_st (R_loadS st78 rfl ((hd10.rd.ext E).get hi8) rfl) rfl (J_st (R_neqS (ne78 (x.news[k]'hi7) (y.news[k]'hi8)) eqg78 rfl rfl) rfl (J_done ?_)))
            refine S_cond rfl (fun hc9 => ?_) (fun hc9 => ?_)
            · refine S_seq ?_
              refine S_reg [true] rfl rfl ?_
              refine J_st (R_assign rfl) rfl (J_done ?_)
              refine S_ret (E_inB_ret (E_lp_ret (E_inB_ret (E_done1 rfl rfl E ?_))))
              exact bf fun h => by have h := of_decide_eq_true h; subst h; simp at hc9
            · refine S_skip ?_
              refine S_nil (E_inB ?_)
              refine S_reg [true, true, true] rfl rfl ?_
              refine J_st (R_move rfl) rfl (J_st (R_add rfl rfl (add_one hc8n (hd5.ext E).1.1)) rfl (J_st (R_assign rfl) rfl (J_done ?_)))
              refine S_nil (E_again (k + 1) (by omega) ⟨rfl, rfl, rfl, rfl, trivial⟩ ⟨E, (by omega), h1, h2, (by omega), eqS_step hp4 (by assumption) (by omega) (by simpa using hc9)⟩)
          · have hc8n : ¬ k < x.news.length := by first | (have h := of_decide_eq_false hc8; omega) | (have h := hc8; simp at h; omega)
            refine S_exit (E_lp_exit (E_inB_exit ?_))
            refine S_seq ?_
            refine S_reg [true] rfl rfl ?_
            refine J_st (R_assign rfl) rfl (J_done ?_)
            refine S_ret (E_done1 rfl rfl E ?_)
            exact sc_yes hc1 (take_all hp1 (sc_len1 hc1) (by omega)) (take_all hp2 (sc_len2 hc1) (by omega)) (take_all hp3 (sc_len3 hc1) (by omega)) (take_all hp4 (sc_len4 hc1) (by omega))

set_option maxHeartbeats 4000000 in
set_option maxRecDepth 20000 in
theorem l_SameCluster (cx : List Value) (x : Cluster) (cy : List Value) (y : Cluster) (w : World) (hx : Dat.R w 0 w.heap.size cx x) (hy : Dat.R w 0 w.heap.size cy y) (_kx : okCluster x) (_ky : okCluster y) : Ct Try.prog 5 [.agg cx.toArray, .agg cy.toArray] w (fun v _ => v = .bool true) := by
  refine ct_of Try.func5 rfl Try.ntmps5 rfl ?_
  obtain ⟨o1, o2, o3, o4, o5, rfl, hd1, hd2, hd3, hd4, hd5⟩ := Cluster.op hx
  obtain ⟨o6, o7, o8, o9, o10, rfl, hd6, hd7, hd8, hd9, hd10⟩ := Cluster.op hy
  refine S_sub [(0, .agg [o1, .int .i64 x.graph.workers, .int .i64 x.graph.cap, o2, o3, o4, o5].toArray), (1, .agg [o6, .int .i64 y.graph.workers, .int .i64 y.graph.cap, o7, o8, o9, o10].toArray)] ⟨rfl, rfl, trivial⟩ ?_
  have E : Ext w w := Ext.refl w
  refine S_seq ?_
  refine S_reg [false, false, true] rfl rfl ?_
  refine J_box rfl rfl (fun b1 w1 e1 s1 h1 => ?_)
  have g_b1 : w.heap.size ≤ b1 := by have := E.size; omega
  have y_b1 := h1.lt
  replace E := E.trans e1
  have z1 := e1.size
  refine J_box rfl rfl (fun b2 w2 e2 s2 h2 => ?_)
  have g_b2 : w.heap.size ≤ b2 := by have := E.size; omega
  have y_b2 := h2.lt
  replace E := E.trans e2; replace h1 := h1.ext e2
  have z2 := e2.size
  refine J_st (R_assign rfl) rfl (J_done ?_)
  refine S_seq ?_
  refine S_reg [true] rfl rfl ?_
  refine J_st (R_assign rfl) rfl (J_done ?_)
  refine S_seq ?_
  refine S_reg [true, true, false, true] rfl rfl ?_
  refine J_st (R_loadS st30 rfl h1.at rfl) rfl (J_st (R_move rfl) rfl ?_)
  refine J_call Try.call6 rfl (c_szCluster [o1, .int .i64 x.graph.workers, .int .i64 x.graph.cap, o2, o3, o4, o5] x 1048576 _ (Cluster.mkR x (RdD.any (hd1.ext E)) (RdD.any (hd2.ext E)) (RdD.any (hd3.ext E)) (RdD.any (hd4.ext E)) (RdD.any (hd5.ext E))) (by first | omega | (simp only [mkL_length]; omega) | (rw [mkL_length]))) rfl (fun _ w3 e3 hv => ?_)
  subst hv
  replace E := E.trans e3; replace h1 := h1.ext e3; replace h2 := h2.ext e3
  have z3 := e3.size
  refine J_st (R_assign rfl) rfl (J_done ?_)
  refine S_seq ?_
  refine S_seq ?_
  refine S_reg [true, true] rfl rfl ?_
  refine J_st (R_move rfl) rfl (J_st (R_lss rfl rfl) rfl (J_done ?_))
  refine S_cond rfl (fun hc1 => ?_) (fun hc1 => ?_)
  · have q1 := szM_no hc1 (by omega)
    refine S_seq ?_
    refine S_reg [true] rfl rfl ?_
    refine J_st (R_assign rfl) rfl (J_done ?_)
    refine S_ret (E_done1 rfl rfl E ?_)
    rfl
  · have q2 := szM_ok hc1 (by omega)
    refine S_skip ?_
    refine S_seq ?_
    refine S_reg [true, true, false, true] rfl rfl ?_
    refine J_st (R_loadS st30 rfl h2.at rfl) rfl (J_st (R_move rfl) rfl ?_)
    refine J_call Try.call6 rfl (c_szCluster [o6, .int .i64 y.graph.workers, .int .i64 y.graph.cap, o7, o8, o9, o10] y (szM (cntCluster x) 1048576) _ (Cluster.mkR y (RdD.any (hd6.ext E)) (RdD.any (hd7.ext E)) (RdD.any (hd8.ext E)) (RdD.any (hd9.ext E)) (RdD.any (hd10.ext E))) (by first | omega | (simp only [mkL_length]; omega) | (rw [mkL_length]))) rfl (fun _ w4 e4 hv => ?_)
    subst hv
    replace E := E.trans e4; replace h1 := h1.ext e4; replace h2 := h2.ext e4
    have z4 := e4.size
    refine J_st (R_assign rfl) rfl (J_done ?_)
    refine S_seq ?_
    refine S_seq ?_
    refine S_reg [true, true] rfl rfl ?_
    refine J_st (R_move rfl) rfl (J_st (R_lss rfl rfl) rfl (J_done ?_))
    refine S_cond rfl (fun hc2 => ?_) (fun hc2 => ?_)
    · have q3 := szM_no hc2 (by omega)
      refine S_seq ?_
      refine S_reg [true] rfl rfl ?_
      refine J_st (R_assign rfl) rfl (J_done ?_)
      refine S_ret (E_done1 rfl rfl E ?_)
      rfl
    · have q4 := szM_ok hc2 (by omega)
      refine S_skip ?_
      refine S_seq ?_
      refine S_regD mixed [(0, true), (2, true), (1, false), (3, false), (4, false), (5, true)] (by decide +kernel) rfl (fun w5 e5 => ?_)
      replace E := E.trans e5; replace h1 := h1.ext e5; replace h2 := h2.ext e5
      have z5 := e5.size
      refine J_st (R_loadS st30 rfl h1.at rfl) rfl (J_st (R_loadS st30 rfl h2.at rfl) rfl ?_)
      refine J_call Try.call8 rfl (c_toCluster [o1, .int .i64 x.graph.workers, .int .i64 x.graph.cap, o2, o3, o4, o5] x _ (Cluster.mkR x (RdD.any (hd1.ext E)) (RdD.any (hd2.ext E)) (RdD.any (hd3.ext E)) (RdD.any (hd4.ext E)) (RdD.any (hd5.ext E))) (by first | omega | (simp only [mkL_length]; omega) | (rw [mkL_length]))) rfl (fun v1 w6 e6 ho1 => ?_)
      obtain ⟨_, rfl, ho1⟩ := ho1
      obtain ⟨o11, o12, o13, o14, o15, rfl, hd11, hd12, hd13, hd14, hd15⟩ := Cluster.op ho1
      replace E := E.trans e6; replace h1 := h1.ext e6; replace h2 := h2.ext e6
      have z6 := e6.size
      refine J_call Try.call8 rfl (c_toCluster [o6, .int .i64 y.graph.workers, .int .i64 y.graph.cap, o7, o8, o9, o10] y _ (Cluster.mkR y (RdD.any (hd6.ext E)) (RdD.any (hd7.ext E)) (RdD.any (hd8.ext E)) (RdD.any (hd9.ext E)) (RdD.any (hd10.ext E))) (by first | omega | (simp only [mkL_length]; omega) | (rw [mkL_length]))) rfl (fun v2 w7 e7 ho2 => ?_)
      obtain ⟨_, rfl, ho2⟩ := ho2
      obtain ⟨o16, o17, o18, o19, o20, rfl, hd16, hd17, hd18, hd19, hd20⟩ := Cluster.op ho2
      replace E := E.trans e7; replace h1 := h1.ext e7; replace h2 := h2.ext e7; replace hd11 := hd11.ext e7; replace hd12 := hd12.ext e7; replace hd13 := hd13.ext e7; replace hd14 := hd14.ext e7; replace hd15 := hd15.ext e7
      have z7 := e7.size
      refine J_call Try.call13 rfl (s_SameCluster [o11, .int .i64 x.graph.workers, .int .i64 x.graph.cap, o12, o13, o14, o15] x [o16, .int .i64 y.graph.workers, .int .i64 y.graph.cap, o17, o18, o19, o20] y _ (Cluster.mkR x (RdD.any hd11) (RdD.any hd12) (RdD.any hd13) (RdD.any hd14) (RdD.any hd15)) (Cluster.mkR y (RdD.any hd16) (RdD.any hd17) (RdD.any hd18) (RdD.any hd19) (RdD.any hd20))) rfl (fun _ w8 e8 hv => ?_)
      subst hv
      replace E := E.trans e8; replace h1 := h1.ext e8; replace h2 := h2.ext e8; replace hd11 := hd11.ext e8; replace hd12 := hd12.ext e8; replace hd13 := hd13.ext e8; replace hd14 := hd14.ext e8; replace hd15 := hd15.ext e8; replace hd16 := hd16.ext e8; replace hd17 := hd17.ext e8; replace hd18 := hd18.ext e8; replace hd19 := hd19.ext e8; replace hd20 := hd20.ext e8
      have z8 := e8.size
      refine J_st (R_assign rfl) rfl (J_done ?_)
      refine S_seq ?_
      refine S_reg [true, false, false, false] rfl rfl ?_
      refine J_st (R_loadS st30 rfl h1.at rfl) rfl ?_
      refine J_call Try.call8 rfl (c_toCluster [o1, .int .i64 x.graph.workers, .int .i64 x.graph.cap, o2, o3, o4, o5] x _ (Cluster.mkR x (RdD.any (hd1.ext E)) (RdD.any (hd2.ext E)) (RdD.any (hd3.ext E)) (RdD.any (hd4.ext E)) (RdD.any (hd5.ext E))) (by first | omega | (simp only [mkL_length]; omega) | (rw [mkL_length]))) rfl (fun v3 w9 e9 ho3 => ?_)
      obtain ⟨_, rfl, ho3⟩ := ho3
      obtain ⟨o21, o22, o23, o24, o25, rfl, hd21, hd22, hd23, hd24, hd25⟩ := Cluster.op ho3
      replace E := E.trans e9; replace h1 := h1.ext e9; replace h2 := h2.ext e9; replace hd11 := hd11.ext e9; replace hd12 := hd12.ext e9; replace hd13 := hd13.ext e9; replace hd14 := hd14.ext e9; replace hd15 := hd15.ext e9; replace hd16 := hd16.ext e9; replace hd17 := hd17.ext e9; replace hd18 := hd18.ext e9; replace hd19 := hd19.ext e9; replace hd20 := hd20.ext e9
      have z9 := e9.size
      refine J_alloc st41 rfl (fun b3 w10 e10 s3 h3 => ?_)
      have g_b3 : w.heap.size ≤ b3 := by have := E.size; omega
      have y_b3 := h3.lt
      replace E := E.trans e10; replace h1 := h1.ext e10; replace h2 := h2.ext e10; replace hd11 := hd11.ext e10; replace hd12 := hd12.ext e10; replace hd13 := hd13.ext e10; replace hd14 := hd14.ext e10; replace hd15 := hd15.ext e10; replace hd16 := hd16.ext e10; replace hd17 := hd17.ext e10; replace hd18 := hd18.ext e10; replace hd19 := hd19.ext e10; replace hd20 := hd20.ext e10; replace hd21 := hd21.ext e10; replace hd22 := hd22.ext e10; replace hd23 := hd23.ext e10; replace hd24 := hd24.ext e10; replace hd25 := hd25.ext e10
      have z10 := e10.size
      refine J_storeS' (cs' := [o21, .int .i64 x.graph.workers, .int .i64 x.graph.cap, o22, o23, o24, o25]) st41 rfl rfl rfl (all_cons (RdD.one hd21) (all_cons rfl (all_cons rfl (all_cons (RdD.one hd22) (all_cons (RdD.one hd23) (all_cons (RdD.one hd24) (all_cons (RdD.one hd25) rfl))))))) h3 (Nat.le_of_ble_eq_true rfl) rfl (fun w11 m1 h3' => ?_)
      replace h3 := h3'
      replace E := E.step m1 (fun g hg => by cases hg; omega); replace h1 := h1.mod m1 (fun g hg => by cases hg; omega); replace h2 := h2.mod m1 (fun g hg => by cases hg; omega); replace hd11 := hd11.mod m1 (fun g hg => by cases hg; omega); replace hd12 := hd12.mod m1 (fun g hg => by cases hg; omega); replace hd13 := hd13.mod m1 (fun g hg => by cases hg; omega); replace hd14 := hd14.mod m1 (fun g hg => by cases hg; omega); replace hd15 := hd15.mod m1 (fun g hg => by cases hg; omega); replace hd16 := hd16.mod m1 (fun g hg => by cases hg; omega); replace hd17 := hd17.mod m1 (fun g hg => by cases hg; omega); replace hd18 := hd18.mod m1 (fun g hg => by cases hg; omega); replace hd19 := hd19.mod m1 (fun g hg => by cases hg; omega); replace hd20 := hd20.mod m1 (fun g hg => by cases hg; omega); replace hd21 := hd21.mod m1 (fun g hg => by cases hg; omega); replace hd22 := hd22.mod m1 (fun g hg => by cases hg; omega); replace hd23 := hd23.mod m1 (fun g hg => by cases hg; omega); replace hd24 := hd24.mod m1 (fun g hg => by cases hg; omega); replace hd25 := hd25.mod m1 (fun g hg => by cases hg; omega)
      have z11 := m1.size
      refine J_done ?_
      refine S_seq ?_
      refine S_reg [true, false, false, false] rfl rfl ?_
      refine J_st (R_loadS st30 rfl h2.at rfl) rfl ?_
      refine J_call Try.call8 rfl (c_toCluster [o6, .int .i64 y.graph.workers, .int .i64 y.graph.cap, o7, o8, o9, o10] y _ (Cluster.mkR y (RdD.any (hd6.ext E)) (RdD.any (hd7.ext E)) (RdD.any (hd8.ext E)) (RdD.any (hd9.ext E)) (RdD.any (hd10.ext E))) (by first | omega | (simp only [mkL_length]; omega) | (rw [mkL_length]))) rfl (fun v4 w12 e11 ho4 => ?_)
      obtain ⟨_, rfl, ho4⟩ := ho4
      obtain ⟨o26, o27, o28, o29, o30, rfl, hd26, hd27, hd28, hd29, hd30⟩ := Cluster.op ho4
      replace E := E.trans e11; replace h1 := h1.ext e11; replace h2 := h2.ext e11; replace hd11 := hd11.ext e11; replace hd12 := hd12.ext e11; replace hd13 := hd13.ext e11; replace hd14 := hd14.ext e11; replace hd15 := hd15.ext e11; replace hd16 := hd16.ext e11; replace hd17 := hd17.ext e11; replace hd18 := hd18.ext e11; replace hd19 := hd19.ext e11; replace hd20 := hd20.ext e11; replace hd21 := hd21.ext e11; replace hd22 := hd22.ext e11; replace hd23 := hd23.ext e11; replace hd24 := hd24.ext e11; replace hd25 := hd25.ext e11; replace h3 := h3.ext e11
      have z12 := e11.size
      refine J_alloc st41 rfl (fun b4 w13 e12 s4 h4 => ?_)
      have g_b4 : w.heap.size ≤ b4 := by have := E.size; omega
      have y_b4 := h4.lt
      replace E := E.trans e12; replace h1 := h1.ext e12; replace h2 := h2.ext e12; replace hd11 := hd11.ext e12; replace hd12 := hd12.ext e12; replace hd13 := hd13.ext e12; replace hd14 := hd14.ext e12; replace hd15 := hd15.ext e12; replace hd16 := hd16.ext e12; replace hd17 := hd17.ext e12; replace hd18 := hd18.ext e12; replace hd19 := hd19.ext e12; replace hd20 := hd20.ext e12; replace hd21 := hd21.ext e12; replace hd22 := hd22.ext e12; replace hd23 := hd23.ext e12; replace hd24 := hd24.ext e12; replace hd25 := hd25.ext e12; replace h3 := h3.ext e12; replace hd26 := hd26.ext e12; replace hd27 := hd27.ext e12; replace hd28 := hd28.ext e12; replace hd29 := hd29.ext e12; replace hd30 := hd30.ext e12
      have z13 := e12.size
      refine J_storeS' (cs' := [o26, .int .i64 y.graph.workers, .int .i64 y.graph.cap, o27, o28, o29, o30]) st41 rfl rfl rfl (all_cons (RdD.one hd26) (all_cons rfl (all_cons rfl (all_cons (RdD.one hd27) (all_cons (RdD.one hd28) (all_cons (RdD.one hd29) (all_cons (RdD.one hd30) rfl))))))) h4 (Nat.le_of_ble_eq_true rfl) rfl (fun w14 m2 h4' => ?_)
      replace h4 := h4'
      replace E := E.step m2 (fun g hg => by cases hg; omega); replace h1 := h1.mod m2 (fun g hg => by cases hg; omega); replace h2 := h2.mod m2 (fun g hg => by cases hg; omega); replace hd11 := hd11.mod m2 (fun g hg => by cases hg; omega); replace hd12 := hd12.mod m2 (fun g hg => by cases hg; omega); replace hd13 := hd13.mod m2 (fun g hg => by cases hg; omega); replace hd14 := hd14.mod m2 (fun g hg => by cases hg; omega); replace hd15 := hd15.mod m2 (fun g hg => by cases hg; omega); replace hd16 := hd16.mod m2 (fun g hg => by cases hg; omega); replace hd17 := hd17.mod m2 (fun g hg => by cases hg; omega); replace hd18 := hd18.mod m2 (fun g hg => by cases hg; omega); replace hd19 := hd19.mod m2 (fun g hg => by cases hg; omega); replace hd20 := hd20.mod m2 (fun g hg => by cases hg; omega); replace hd21 := hd21.mod m2 (fun g hg => by cases hg; omega); replace hd22 := hd22.mod m2 (fun g hg => by cases hg; omega); replace hd23 := hd23.mod m2 (fun g hg => by cases hg; omega); replace hd24 := hd24.mod m2 (fun g hg => by cases hg; omega); replace hd25 := hd25.mod m2 (fun g hg => by cases hg; omega); replace h3 := h3.mod m2 (fun g hg => by cases hg; omega); replace hd26 := hd26.mod m2 (fun g hg => by cases hg; omega); replace hd27 := hd27.mod m2 (fun g hg => by cases hg; omega); replace hd28 := hd28.mod m2 (fun g hg => by cases hg; omega); replace hd29 := hd29.mod m2 (fun g hg => by cases hg; omega); replace hd30 := hd30.mod m2 (fun g hg => by cases hg; omega)
      have z14 := m2.size
      refine J_done ?_
      refine S_seq ?_
      refine S_reg [true, true, false, true] rfl rfl ?_
      refine J_st (R_loadS st41 rfl h3.at rfl) rfl (J_st (R_loadS st41 rfl h4.at rfl) rfl ?_)
      refine J_call Try.call14 rfl (c_SameCluster [o21, .int .i64 x.graph.workers, .int .i64 x.graph.cap, o22, o23, o24, o25] x [o26, .int .i64 y.graph.workers, .int .i64 y.graph.cap, o27, o28, o29, o30] y _ (Cluster.mkR x (RdD.any hd21) (RdD.any hd22) (RdD.any hd23) (RdD.any hd24) (RdD.any hd25)) (Cluster.mkR y (RdD.any hd26) (RdD.any hd27) (RdD.any hd28) (RdD.any hd29) (RdD.any hd30))) rfl (fun _ w15 e13 hv => ?_)
      subst hv
      replace E := E.trans e13; replace h1 := h1.ext e13; replace h2 := h2.ext e13; replace hd11 := hd11.ext e13; replace hd12 := hd12.ext e13; replace hd13 := hd13.ext e13; replace hd14 := hd14.ext e13; replace hd15 := hd15.ext e13; replace hd16 := hd16.ext e13; replace hd17 := hd17.ext e13; replace hd18 := hd18.ext e13; replace hd19 := hd19.ext e13; replace hd20 := hd20.ext e13; replace hd21 := hd21.ext e13; replace hd22 := hd22.ext e13; replace hd23 := hd23.ext e13; replace hd24 := hd24.ext e13; replace hd25 := hd25.ext e13; replace h3 := h3.ext e13; replace hd26 := hd26.ext e13; replace hd27 := hd27.ext e13; replace hd28 := hd28.ext e13; replace hd29 := hd29.ext e13; replace hd30 := hd30.ext e13; replace h4 := h4.ext e13
      have z15 := e13.size
      refine J_st (R_assign rfl) rfl (J_done ?_)
      refine S_seq ?_
      refine S_seq ?_
      refine S_reg [true, true, true] rfl rfl ?_
      refine J_st (R_move rfl) rfl (J_st (R_move rfl) rfl (J_st (R_neqB (Try.underlying4) rfl rfl) rfl (J_done ?_)))
      refine S_condFe rfl (by first | (simp; done) | (simp only [nat_nlt] <;> simp) | (simp only [mkL_length, nat_nlt] <;> simp) | (simp only [mkL_length] <;> simp)) ?_
      refine S_skip ?_
      refine S_seq ?_
      refine S_seq ?_
      refine S_regD mixed [(0, true), (1, true), (2, false), (3, false), (4, true)] (by decide +kernel) rfl (fun w16 e14 => ?_)
      replace E := E.trans e14; replace h1 := h1.ext e14; replace h2 := h2.ext e14; replace hd11 := hd11.ext e14; replace hd12 := hd12.ext e14; replace hd13 := hd13.ext e14; replace hd14 := hd14.ext e14; replace hd15 := hd15.ext e14; replace hd16 := hd16.ext e14; replace hd17 := hd17.ext e14; replace hd18 := hd18.ext e14; replace hd19 := hd19.ext e14; replace hd20 := hd20.ext e14; replace hd21 := hd21.ext e14; replace hd22 := hd22.ext e14; replace hd23 := hd23.ext e14; replace hd24 := hd24.ext e14; replace hd25 := hd25.ext e14; replace h3 := h3.ext e14; replace hd26 := hd26.ext e14; replace hd27 := hd27.ext e14; replace hd28 := hd28.ext e14; replace hd29 := hd29.ext e14; replace hd30 := hd30.ext e14; replace h4 := h4.ext e14
      have z16 := e14.size
      refine J_st (R_loadS st41 rfl h3.at rfl) rfl (J_st (R_loadS st30 rfl h1.at rfl) rfl ?_)
      refine J_call Try.call8 rfl (c_toCluster [o1, .int .i64 x.graph.workers, .int .i64 x.graph.cap, o2, o3, o4, o5] x _ (Cluster.mkR x (RdD.any (hd1.ext E)) (RdD.any (hd2.ext E)) (RdD.any (hd3.ext E)) (RdD.any (hd4.ext E)) (RdD.any (hd5.ext E))) (by first | omega | (simp only [mkL_length]; omega) | (rw [mkL_length]))) rfl (fun v5 w17 e15 ho5 => ?_)
      obtain ⟨_, rfl, ho5⟩ := ho5
      obtain ⟨o31, o32, o33, o34, o35, rfl, hd31, hd32, hd33, hd34, hd35⟩ := Cluster.op ho5
      replace E := E.trans e15; replace h1 := h1.ext e15; replace h2 := h2.ext e15; replace hd11 := hd11.ext e15; replace hd12 := hd12.ext e15; replace hd13 := hd13.ext e15; replace hd14 := hd14.ext e15; replace hd15 := hd15.ext e15; replace hd16 := hd16.ext e15; replace hd17 := hd17.ext e15; replace hd18 := hd18.ext e15; replace hd19 := hd19.ext e15; replace hd20 := hd20.ext e15; replace hd21 := hd21.ext e15; replace hd22 := hd22.ext e15; replace hd23 := hd23.ext e15; replace hd24 := hd24.ext e15; replace hd25 := hd25.ext e15; replace h3 := h3.ext e15; replace hd26 := hd26.ext e15; replace hd27 := hd27.ext e15; replace hd28 := hd28.ext e15; replace hd29 := hd29.ext e15; replace hd30 := hd30.ext e15; replace h4 := h4.ext e15
      have z17 := e15.size
      refine J_call Try.call10 rfl (c_eqCluster [o21, .int .i64 x.graph.workers, .int .i64 x.graph.cap, o22, o23, o24, o25] x [o31, .int .i64 x.graph.workers, .int .i64 x.graph.cap, o32, o33, o34, o35] x _ (Cluster.mkR x (RdD.any hd21) (RdD.any hd22) (RdD.any hd23) (RdD.any hd24) (RdD.any hd25)) (Cluster.mkR x (RdD.any hd31) (RdD.any hd32) (RdD.any hd33) (RdD.any hd34) (RdD.any hd35))) rfl (fun _ w18 e16 hv => ?_)
      subst hv
      replace E := E.trans e16; replace h1 := h1.ext e16; replace h2 := h2.ext e16; replace hd11 := hd11.ext e16; replace hd12 := hd12.ext e16; replace hd13 := hd13.ext e16; replace hd14 := hd14.ext e16; replace hd15 := hd15.ext e16; replace hd16 := hd16.ext e16; replace hd17 := hd17.ext e16; replace hd18 := hd18.ext e16; replace hd19 := hd19.ext e16; replace hd20 := hd20.ext e16; replace hd21 := hd21.ext e16; replace hd22 := hd22.ext e16; replace hd23 := hd23.ext e16; replace hd24 := hd24.ext e16; replace hd25 := hd25.ext e16; replace h3 := h3.ext e16; replace hd26 := hd26.ext e16; replace hd27 := hd27.ext e16; replace hd28 := hd28.ext e16; replace hd29 := hd29.ext e16; replace hd30 := hd30.ext e16; replace h4 := h4.ext e16; replace hd31 := hd31.ext e16; replace hd32 := hd32.ext e16; replace hd33 := hd33.ext e16; replace hd34 := hd34.ext e16; replace hd35 := hd35.ext e16
      have z18 := e16.size
      refine J_st (R_not rfl) rfl (J_done ?_)
      refine S_condFe rfl (by first | (simp; done) | (simp only [nat_nlt] <;> simp) | (simp only [mkL_length, nat_nlt] <;> simp) | (simp only [mkL_length] <;> simp)) ?_
      refine S_skip ?_
      refine S_seq ?_
      refine S_seq ?_
      refine S_regD mixed [(0, true), (1, true), (2, false), (3, false), (4, true)] (by decide +kernel) rfl (fun w19 e17 => ?_)
      replace E := E.trans e17; replace h1 := h1.ext e17; replace h2 := h2.ext e17; replace hd11 := hd11.ext e17; replace hd12 := hd12.ext e17; replace hd13 := hd13.ext e17; replace hd14 := hd14.ext e17; replace hd15 := hd15.ext e17; replace hd16 := hd16.ext e17; replace hd17 := hd17.ext e17; replace hd18 := hd18.ext e17; replace hd19 := hd19.ext e17; replace hd20 := hd20.ext e17; replace hd21 := hd21.ext e17; replace hd22 := hd22.ext e17; replace hd23 := hd23.ext e17; replace hd24 := hd24.ext e17; replace hd25 := hd25.ext e17; replace h3 := h3.ext e17; replace hd26 := hd26.ext e17; replace hd27 := hd27.ext e17; replace hd28 := hd28.ext e17; replace hd29 := hd29.ext e17; replace hd30 := hd30.ext e17; replace h4 := h4.ext e17; replace hd31 := hd31.ext e17; replace hd32 := hd32.ext e17; replace hd33 := hd33.ext e17; replace hd34 := hd34.ext e17; replace hd35 := hd35.ext e17
      have z19 := e17.size
      refine J_st (R_loadS st41 rfl h4.at rfl) rfl (J_st (R_loadS st30 rfl h2.at rfl) rfl ?_)
      refine J_call Try.call8 rfl (c_toCluster [o6, .int .i64 y.graph.workers, .int .i64 y.graph.cap, o7, o8, o9, o10] y _ (Cluster.mkR y (RdD.any (hd6.ext E)) (RdD.any (hd7.ext E)) (RdD.any (hd8.ext E)) (RdD.any (hd9.ext E)) (RdD.any (hd10.ext E))) (by first | omega | (simp only [mkL_length]; omega) | (rw [mkL_length]))) rfl (fun v6 w20 e18 ho6 => ?_)
      obtain ⟨_, rfl, ho6⟩ := ho6
      obtain ⟨o36, o37, o38, o39, o40, rfl, hd36, hd37, hd38, hd39, hd40⟩ := Cluster.op ho6
      replace E := E.trans e18; replace h1 := h1.ext e18; replace h2 := h2.ext e18; replace hd11 := hd11.ext e18; replace hd12 := hd12.ext e18; replace hd13 := hd13.ext e18; replace hd14 := hd14.ext e18; replace hd15 := hd15.ext e18; replace hd16 := hd16.ext e18; replace hd17 := hd17.ext e18; replace hd18 := hd18.ext e18; replace hd19 := hd19.ext e18; replace hd20 := hd20.ext e18; replace hd21 := hd21.ext e18; replace hd22 := hd22.ext e18; replace hd23 := hd23.ext e18; replace hd24 := hd24.ext e18; replace hd25 := hd25.ext e18; replace h3 := h3.ext e18; replace hd26 := hd26.ext e18; replace hd27 := hd27.ext e18; replace hd28 := hd28.ext e18; replace hd29 := hd29.ext e18; replace hd30 := hd30.ext e18; replace h4 := h4.ext e18; replace hd31 := hd31.ext e18; replace hd32 := hd32.ext e18; replace hd33 := hd33.ext e18; replace hd34 := hd34.ext e18; replace hd35 := hd35.ext e18
      have z20 := e18.size
      refine J_call Try.call10 rfl (c_eqCluster [o26, .int .i64 y.graph.workers, .int .i64 y.graph.cap, o27, o28, o29, o30] y [o36, .int .i64 y.graph.workers, .int .i64 y.graph.cap, o37, o38, o39, o40] y _ (Cluster.mkR y (RdD.any hd26) (RdD.any hd27) (RdD.any hd28) (RdD.any hd29) (RdD.any hd30)) (Cluster.mkR y (RdD.any hd36) (RdD.any hd37) (RdD.any hd38) (RdD.any hd39) (RdD.any hd40))) rfl (fun _ w21 e19 hv => ?_)
      subst hv
      replace E := E.trans e19; replace h1 := h1.ext e19; replace h2 := h2.ext e19; replace hd11 := hd11.ext e19; replace hd12 := hd12.ext e19; replace hd13 := hd13.ext e19; replace hd14 := hd14.ext e19; replace hd15 := hd15.ext e19; replace hd16 := hd16.ext e19; replace hd17 := hd17.ext e19; replace hd18 := hd18.ext e19; replace hd19 := hd19.ext e19; replace hd20 := hd20.ext e19; replace hd21 := hd21.ext e19; replace hd22 := hd22.ext e19; replace hd23 := hd23.ext e19; replace hd24 := hd24.ext e19; replace hd25 := hd25.ext e19; replace h3 := h3.ext e19; replace hd26 := hd26.ext e19; replace hd27 := hd27.ext e19; replace hd28 := hd28.ext e19; replace hd29 := hd29.ext e19; replace hd30 := hd30.ext e19; replace h4 := h4.ext e19; replace hd31 := hd31.ext e19; replace hd32 := hd32.ext e19; replace hd33 := hd33.ext e19; replace hd34 := hd34.ext e19; replace hd35 := hd35.ext e19; replace hd36 := hd36.ext e19; replace hd37 := hd37.ext e19; replace hd38 := hd38.ext e19; replace hd39 := hd39.ext e19; replace hd40 := hd40.ext e19
      have z21 := e19.size
      refine J_st (R_not rfl) rfl (J_done ?_)
      refine S_condFe rfl (by first | (simp; done) | (simp only [nat_nlt] <;> simp) | (simp only [mkL_length, nat_nlt] <;> simp) | (simp only [mkL_length] <;> simp)) ?_
      refine S_skip ?_
      refine S_seq ?_
      refine S_reg [true] rfl rfl ?_
      refine J_st (R_assign rfl) rfl (J_done ?_)
      refine S_ret (E_done1 rfl rfl E ?_)
      rfl

end Go.Proofs.Ytnfbnbdjdokmpaa
