/- What the functions that the laws call come to: a contract each; no condition. -/
import Derived.Test.YteljajfcppmeiaaGreatFns2
namespace Go.Proofs.YteljajfcppmeiaaGreat
open Go Go.Proofs.YteljajfcppmeiaaGreat.X Go.Proofs
set_option maxHeartbeats 4000000 in
set_option maxRecDepth 20000 in
theorem s_PutCell (vxs : Value) (xs : List Cell) (x : Cell) (w : World) (hxs : RdS w vxs xs) (hb : xs.length ≤ 4194304) : Ct Tryz.prog 87 [vxs,.agg (Enc.enc x).toArray] w (fun v w'=>Own w' w.heap.size w'.heap.size 4 v (List.flatMap (Enc.enc (α:=Cell)) (Gw xs x))):=by
 refine Yx Tryz.func87 Z Tryz.ntmps87 Z ?_
 refine Yh [(0,vxs),(1,.agg (Enc.enc x).toArray)] ⟨Z,Z,trivial⟩ ?_
 have E : Ext w w:=Ext.refl w
 refine Qh (Qi [false,true] Z Z (Y5 Z Z (fun b1 w1 e1 s1 h1=>?_)))
 have g_b1 : w.heap.size ≤ b1:=by have:=E.size;omega
 have y_b1:=h1.lt
 replace E:=E.trans e1
 have z1:=e1.size
 refine Qa (Qg Z) Z (Qf (Qh (Qh (Qi [true,true,false] Z Z (Qa (Qe Z) Z (Qa (Qo Ku Z h1.at Z) Z (Qv Tryz.call86 Z (s_HasCell vxs xs x _ (hxs.ext E)) Z (fun _ w2 e2 hv=>?_))))))))
 subst hv
 replace E:=E.trans e2;replace h1:=h1.ext e2
 have z2:=e2.size
 refine Qf (Qw Z (fun hc1=>?_) (fun hc1=>?_))
 ·refine Qh (Qi [false,true,false,true] Z Z (Q8 (vs:=[]) (css:=[]) X0 Z Z trivial Z Z (fun b2 w3 e3 s2 h2=>?_)))
  replace h2 : Blk w3 b2 []:=h2
  have g_b2 : w.heap.size ≤ b2:=by have:=E.size;omega
  have y_b2:=h2.lt
  replace E:=E.trans e3;replace h1:=h1.ext e3
  have z3:=e3.size
  refine Qa (Qe Z) Z (K2 X0 Z Z (Own.ofBlk (lo:=b2) (hi:=b2 + 1) (sz:=4) h2 (Nat.le_refl _) (Nat.lt_succ_self _) (by simp) (by simp [maxLen])) (RdS.src (hxs.ext E)) (Xp _) (by simp only [Ya,List.length_nil,List.length_append,List.length_take,List.length_drop,List.length_cons];simp only [Enc.sz];omega) (by decide) (by omega) (by omega) Z Z (fun v1 w4 m1 ho1=>?_))
  replace E:=E.step m1 (fun g hg=>by have:=Own.blk (Own.ofBlk (lo:=b2) (hi:=b2 + 1) (sz:=4) h2 (Nat.le_refl _) (Nat.lt_succ_self _) (by simp) (by simp [maxLen])) g hg;omega);replace h1:=h1.mod m1 (fun g hg=>by have:=Own.blk (Own.ofBlk (lo:=b2) (hi:=b2 + 1) (sz:=4) h2 (Nat.le_refl _) (Nat.lt_succ_self _) (by simp) (by simp [maxLen])) g hg;omega)
  have z4:=m1.size
  refine Qa (Qg Z) Z (Qf (Qx (Q0 Z Z E ?_)))
  exact Own.fin ho1 (by omega) (by omega) (by simp only [Cr hc1,List.nil_append])
 ·refine Qy (Qh (Qi [true] Z Z (Qa (Qg Z) Z (Qf (Qh (Q9 (Xk (fun (k : Nat)=>[(0,vxs),(3,.pointer (some ⟨b1,0,none⟩)),(4,.slice none 0 0),(5,.int .i64 ((k : Nat) : Int))]) (fun (k : Nat) w'=>Ext w w' ∧ w2.heap.size ≤ w'.heap.size ∧ Blk w' b1 (Enc.enc x) ∧ k ≤ xs.length ∧ (xs.take k).all (Gc x) = true) (fun (k : Nat)=>xs.length - k) 0 ⟨Z,Z,Z,Z,trivial⟩ ⟨E,Nat.le_refl _,h1,Nat.zero_le _,Z⟩ ?_)))))))
  clear E h1
  rintro k w5 ⟨E,z5,h1,hk,hI⟩
  refine Qh (Qh (Xu Xo [(0,true),(1,true),(2,true),(3,true),(4,true),(5,true),(6,true),(7,true),(8,true),(9,true),(10,false),(11,true),(12,true)] (by decide +kernel) Z (fun w6 e4=>?_)))
  replace E:=E.trans e4;replace h1:=h1.ext e4
  have z6:=e4.size
  refine Qa (Qe Z) Z (Qa (Qe Z) Z (Qa (Yg Tryz.underlying28 Z (hxs.ext E).len) Z (Qa (Xn Z Z) Z (Qa (Qe Z) Z (Xg 8 [(0,vxs),(3,.pointer (some ⟨b1,0,none⟩)),(4,.slice none 0 0),(5,.int .i64 ((k : Nat) : Int)),(25,.bool ((decide (((k : Nat) : Int) < ((xs.length : Nat) : Int))) && (decide ((X4 (List.getD xs k default) x) < 0))))] (fun w'=>Ext w w' ∧ w6.heap.size ≤ w'.heap.size ∧ Blk w' b1 (Enc.enc x)) ?_ ?_)))))
  ·refine Ym (gd:=17) Z Z (fun hg1=>?_) (fun hg1=>?_)
   ·have hg1n : k < xs.length:=by first | (have h:=of_decide_eq_true hg1;omega) | (have h:=hg1;simp at h;omega)
    refine Qk Z Z (Qe Z) Z (Qk Z Z (Qe Z) Z (Qk Z Z (Ye (i:=k) X0 Z Z (hxs.ext E) (by first | assumption | omega | (simp only [List.length_set];first | assumption | omega) | (simp only [List.getElem_set_self,List.length_set];first | assumption | omega) | (simp only [Xc,Yp,List.length_set];first | assumption | omega) | (simp;done))) Z (Qk Z Z (Qo Ku Z (RdS.getD (hxs.ext E) (i:=k) (by first | assumption | omega | (simp only [List.length_set];first | assumption | omega) | (simp only [List.getElem_set_self,List.length_set];first | assumption | omega) | (simp only [Xc,Yp,List.length_set];first | assumption | omega) | (simp;done))) Z) Z (Qk Z Z (Qo Ku Z h1.at Z) Z ?_))))
    refine Y3 Z Z ?_
    refine Qv Tryz.call71 Z (s_CellOrder (List.getD xs k default) x _ ) Z (fun _ w8 e5 hv=>?_)
    subst hv
    replace E:=E.trans e5;replace h1:=h1.ext e5
    have z7:=e5.size
    refine Qk Z Z (Xn Z Z) Z (Qa (Qr Z Z) Z (Ql ⟨Z,Z,Z,Z,congrArg (fun b=>some (Value.bool b)) (show (decide ((X4 (List.getD xs k default) x) < 0)) = ((decide (((k : Nat) : Int) < ((xs.length : Nat) : Int))) && (decide ((X4 (List.getD xs k default) x) < 0))) by first | (rw [hg1] <;> rfl) | (simp [hg1];done) | (simp only [Qp] <;> simp)),trivial⟩ ⟨E,(by omega),h1⟩))
   ·have hg1n : ¬ k < xs.length:=by first | (have h:=of_decide_eq_false hg1;omega) | (have h:=hg1;simp at h;omega)
    refine Qc Z Z Z Z (Qc Z Z Z Z (Qc Z Z Z Z (Qc Z Z Z Z (Qc Z Z Z Z ?_))))
    refine Q1 Z Z Z Z ?_
    refine Qc Z Z Z Z (Qa (Qq Z Z) Z (Ql ⟨Z,Z,Z,Z,congrArg (fun b=>some (Value.bool b)) (show false = ((decide (((k : Nat) : Int) < ((xs.length : Nat) : Int))) && (decide ((X4 (List.getD xs k default) x) < 0))) by first | (rw [hg1] <;> rfl) | (simp [hg1];done) | (simp only [Qp] <;> simp)),trivial⟩ ⟨E,(by omega),h1⟩))
  clear E h1
  rintro w7 ⟨E,z8,h1⟩
  refine Qf (Qw Z (fun hc2=>?_) (fun hc2=>?_))
  ·have hlt:=put_lt hc2
   refine Qy (Q9 (Qi [true,true,true] Z Z (Qa (Qe Z) Z (Qa (Yw Z Z (K5 (by unfold maxLen;omega))) Z (Qa (Qg Z) Z (Qf (Yb (Yv (Yb (Yy (k + 1) (by omega) ⟨Z,Z,Z,Z,trivial⟩ ⟨E,(by omega),h1,(by omega),(put_step hI hc2)⟩))))))))))
  ·refine Xl (Ys (Yj ?_))
   refine Qh ?_
   have hk1 : k ≤ xs.length:=by first | assumption | omega
   have hs1 : RdS (α:=Cell) w (slTo vxs k) (List.take k xs):=RdL.slTo hxs hk1
   refine S_regF Xo [7] 6 34 [33] [(1,true),(2,true),(3,true),(5,true)] [(0,false),(4,false)] [(7,false),(8,true)] (fun b=>.slice (some ⟨b,0,none⟩) 1 1) (z:=[.int .i64 x.op,.int .i64 x.epoch,.int .i64 x.key,.int .i64 x.val]) (by decide +kernel) Z Z Z Z Z Z Z [(0,vxs),(3,.pointer (some ⟨b1,0,none⟩)),(4,.slice none 0 0),(5,.int .i64 ((k : Nat) : Int)),(25,.bool ((decide (((k : Nat) : Int) < ((xs.length : Nat) : Int))) && (decide ((X4 (List.getD xs k default) x) < 0)))),(29,vxs),(30,.int .i64 ((k : Nat) : Int)),(31,slTo vxs k),(33,.agg (Enc.enc x).toArray)] [(33,.agg (Enc.enc x).toArray)] Z ⟨Z,trivial⟩ (fun w'=>Ext w w' ∧ w7.heap.size ≤ w'.heap.size ∧ Blk w' b1 (Enc.enc x)) (float_lit1 X0 Z Z Z Z) (fun w9 e6=>?_) (fun w9 hphi_w9=>?_)
   ·replace E:=E.trans e6;replace h1:=h1.ext e6
    have z9:=e6.size
    refine Qa (Qe Z) Z (Qa (Qe Z) Z (Qa (Hp X0 Z Z (RdL.room (hxs.ext E)) hk1) Z (Qa (Qo Ku Z h1.at Z) Z (Ql ⟨Z,Z,Z,Z,Z,Z,Z,Z,Z,trivial⟩ ⟨E,(by omega),h1⟩))))
   clear E h1
   obtain ⟨E,z10,h1⟩:=hphi_w9
   refine JI_un Z (fun w10 e7=>?_) Z
   replace E:=E.trans e7;replace h1:=h1.ext e7
   have z11:=e7.size
   refine Q8 (vs:=[]) (css:=[]) X0 Z Z trivial Z Z (fun b3 w11 e8 s3 h3=>?_)
   replace h3 : Blk w11 b3 []:=h3
   have g_b3 : w.heap.size ≤ b3:=by have:=E.size;omega
   have y_b3:=h3.lt
   replace E:=E.trans e8;replace h1:=h1.ext e8
   have z12:=e8.size
   refine JI_go2 ?_
   refine JI_un Z (fun w12 e9=>?_) Z
   replace E:=E.trans e9;replace h1:=h1.ext e9;replace h3:=h3.ext e9
   have z13:=e9.size
   refine Gr X0 Z Z (Own.ofBlk (lo:=b3) (hi:=b3 + 1) (sz:=4) h3 (Nat.le_refl _) (Nat.lt_succ_self _) (by simp) (by simp [maxLen])) ⟨_,_,Z⟩ (RdS.src (hs1.ext E)) (Xp _) (by simp only [Ya,List.length_nil,List.length_append,List.length_take,List.length_drop,List.length_cons];simp only [Enc.sz];omega) (by decide) (by omega) (by omega) Z (fun v2 w13 e10 ho2 hb_ho2=>?_)
   replace E:=E.trans e10;replace h1:=h1.ext e10
   have z14:=e10.size
   have g_ho2 : w.heap.size ≤ b3:=by have:=E.size;omega
   have hn1 : ∀ g,Value.ownBlock v2 = some g → g = b3 ∨ w12.heap.size ≤ g:=fun g hg=>(hb_ho2 g hg).elim (fun h=>.inl (by cases h;rfl)) (fun h=>.inr h)
   replace ho2 : Own w13 b3 w13.heap.size 4 v2 (List.flatMap (Enc.enc (α:=Cell)) (List.take k xs)):=ho2
   refine JI_go2 ?_
   refine JI_end Z (fun b4 w14 e11 g1 y1 h4 hI1=>?_)
   have hI1_0 : b4 < w10.heap.size ∨ w11.heap.size ≤ b4:=hI1 (_,_) (by simp)
   have hI1_1 : b4 < w12.heap.size ∨ w13.heap.size ≤ b4:=hI1 (_,_) (by simp)
   replace E:=E.trans e11;replace h1:=h1.ext e11;replace ho2:=ho2.ext e11
   have z15:=e11.size
   have g_b4 : w.heap.size ≤ b4:=by have:=E.size;omega
   have y_b4:=h4.lt
   refine J2_sub [(0,vxs),(3,.pointer (some ⟨b1,0,none⟩)),(4,.slice none 0 0),(5,.int .i64 ((k : Nat) : Int)),(25,.bool ((decide (((k : Nat) : Int) < ((xs.length : Nat) : Int))) && (decide ((X4 (List.getD xs k default) x) < 0)))),(28,.slice (some ⟨b3,0,none⟩) 0 0),(29,vxs),(30,.int .i64 ((k : Nat) : Int)),(31,slTo vxs k),(32,v2),(33,.agg (Enc.enc x).toArray),(34,.slice (some ⟨b4,0,none⟩) 1 1)] ⟨Z,Z,Z,Z,Z,Z,Z,Z,Z,Z,Z,Z,trivial⟩ ?_
   refine J2_X Z ?_
   refine Kd X0 Z Z ho2 (Src.ofBlk h4 Z) Z (by simp only [Ya,List.length_nil,List.length_append,List.length_take,List.length_drop,List.length_cons];simp only [Enc.sz];omega) (by decide) (by omega) (by omega) Z Z (fun v3 w15 m2 ho3 hb1=>?_)
   have hn2 : ∀ g,Value.ownBlock v3 = some g → g = b3 ∨ w12.heap.size ≤ g:=fun g hg=>(hb1 g hg).elim (fun h=>hn1 g h) (fun h=>by omega)
   replace E:=E.step m2 (fun g hg=>by have:=Own.blk ho2 g hg;have:=hn1 g hg;omega);replace h1:=h1.mod m2 (fun g hg=>by have:=Own.blk ho2 g hg;have:=hn1 g hg;omega)
   have z16:=m2.size
   refine Af ?_
   refine Qa (Qg Z) Z (Qf (Qh (Qi [true,true,true,true,false,true] Z Z (Qa (Qe Z) Z (Qa (Qe Z) Z (Qa (Qe Z) Z ?_))))))
   have hk2 : k ≤ xs.length:=by first | assumption | omega
   have hs2 : RdS (α:=Cell) w (slFrom vxs k 4) (List.drop k xs):=RdL.slFrom hxs hk2
   refine Qa (Kt X0 Z Z (RdL.room (hxs.ext E)) hk2) Z (Kd X0 Z Z ho3 (RdS.src (hs2.ext E)) (Xp _) (by simp only [Ya,List.length_nil,List.length_append,List.length_take,List.length_drop,List.length_cons];simp only [Enc.sz];omega) (by decide) (by omega) (by omega) Z Z (fun v4 w16 m3 ho4 hb2=>?_))
   have hn3 : ∀ g,Value.ownBlock v4 = some g → g = b3 ∨ w12.heap.size ≤ g:=fun g hg=>(hb2 g hg).elim (fun h=>hn2 g h) (fun h=>by omega)
   replace E:=E.step m3 (fun g hg=>by have:=Own.blk ho3 g hg;have:=hn2 g hg;omega);replace h1:=h1.mod m3 (fun g hg=>by have:=Own.blk ho3 g hg;have:=hn2 g hg;omega)
   have z17:=m3.size
   refine Qa (Qg Z) Z (Qf (Qx (Q0 Z Z E ?_)))
   exact Own.fin ho4 (by omega) (by omega) (by rw [putM_no hc1 hI hk hc2,Gn];rfl)

set_option maxRecDepth 20000 in
theorem c_better1 (y : Cell) (bx : Nat) (x : Cell) (w : World) (hx : At w bx 0 [.int .i64 x.op,.int .i64 x.epoch,.int .i64 x.key,.int .i64 x.val]) : Ct Tryz.prog 99 [.agg (Enc.enc y).toArray,.pointer (some ⟨bx,0,none⟩)] w (fun v _=>v = .bool (Kx x y)):=by
 refine Yx Tryz.func99 Z Tryz.ntmps99 Z ?_
 refine Yh [(0,.agg (Enc.enc y).toArray),(1,.pointer (some ⟨bx,0,none⟩))] ⟨Z,Z,trivial⟩ ?_
 have E : Ext w w:=Ext.refl w
 refine Qh (Qi [false,true] Z Z (Y5 Z Z (fun b1 w1 e1 s1 h1=>?_)))
 have g_b1 : w.heap.size ≤ b1:=by have:=E.size;omega
 have y_b1:=h1.lt
 replace E:=E.trans e1
 have z1:=e1.size
 refine Qa (Qg Z) Z (Qf (Qh (Qi [true,true,false,true] Z Z (Qa (Qo Ku Z (hx.ext E) Z) Z (Qa (Qo Ku Z h1.at Z) Z (Qv Tryz.call100 Z (c_sameSlot x y _ ) Z (fun _ w2 e2 hv=>?_)))))))
 subst hv
 replace E:=E.trans e2;replace h1:=h1.ext e2
 have z2:=e2.size
 refine Qa (Qg Z) Z (Qf (Qx (Q0 Z Z E ?_)))
 rfl

set_option maxRecDepth 20000 in
theorem c_better (vxs : Value) (xs : List Cell) (x : Cell) (w : World) (hxs : RdS w vxs xs) (hb : xs.length ≤ 4194304) : Ct Tryz.prog 81 [vxs,.agg (Enc.enc x).toArray] w (fun v w'=>∃ u0,v = .tuple [u0,.bool ((Xe xs x).2)].toArray ∧ Own w' w.heap.size w'.heap.size 4 u0 (List.flatMap (Enc.enc (α:=Cell)) ((Xe xs x).1))):=by
 refine Yx Tryz.func81 Z Tryz.ntmps81 Z ?_
 refine Yh [(0,vxs),(1,.agg (Enc.enc x).toArray)] ⟨Z,Z,trivial⟩ ?_
 have E : Ext w w:=Ext.refl w
 refine Qh (Qi [false,true,true] Z Z (Y5 Z Z (fun b1 w1 e1 s1 h1=>?_)))
 have g_b1 : w.heap.size ≤ b1:=by have:=E.size;omega
 have y_b1:=h1.lt
 replace E:=E.trans e1
 have z1:=e1.size
 refine Qa (Qg Z) Z (Qa (Qg Z) Z (Qf (Qh (Qh (Qi [true,true,true,true,true,true,true,false,true,true,true,true,true] Z Z (Qa (Qe Z) Z (Qa (Qd Ve Z) Z (Qa (Qj Y6 Z (h1.one 0 Z)) Z (Qa (Qd Vd Z) Z (Qa (Qj Y6 Z (h1.one 1 Z)) Z (Qa (Qd Vc Z) Z (Qa (Qj Y6 Z (h1.one 2 Z)) Z (Qv Tryz.call97 Z (c_LeastOf vxs xs x.op x.epoch x.key _ (hxs.ext E)) Z (fun _ w2 e2 hv=>?_))))))))))))))
 subst hv
 replace E:=E.trans e2;replace h1:=h1.ext e2
 have z2:=e2.size
 refine Qa (Qe Z) Z (Qa (Q5 Z Z) Z (Qa (Q5 Z Z) Z (Qa (Qg Z) Z (Qa (Qg Z) Z (Qf (Qh (Qi [true,true,true,true,true,true,true] Z Z (Qa (Qe Z) Z (Qa (Qe Z) Z (Xg 5 [(0,vxs),(1,.agg (Enc.enc x).toArray),(3,.pointer (some ⟨b1,0,none⟩)),(4,.slice none 0 0),(5,.bool false),(6,.int .i64 ((Yk xs x.op x.epoch x.key).1)),(7,.bool ((Yk xs x.op x.epoch x.key).2)),(9,.tuple [.int .i64 ((Yk xs x.op x.epoch x.key).1),.bool ((Yk xs x.op x.epoch x.key).2)].toArray),(10,vxs),(11,.pointer (some ⟨b1,0,none⟩)),(12,.int .i64 x.op),(13,.pointer (some ⟨b1,1,none⟩)),(14,.int .i64 x.epoch),(15,.pointer (some ⟨b1,2,none⟩)),(16,.int .i64 x.key),(17,.tuple [.int .i64 ((Yk xs x.op x.epoch x.key).1),.bool ((Yk xs x.op x.epoch x.key).2)].toArray),(18,.int .i64 ((Yk xs x.op x.epoch x.key).1)),(19,.bool ((Yk xs x.op x.epoch x.key).2)),(26,.bool (((Yk xs x.op x.epoch x.key).2) && (decide (((Yk xs x.op x.epoch x.key).1) ≤ x.val))))] (fun w'=>w2 = w') ?_ ?_))))))))))
 ·refine Ym (gd:=21) Z Z (fun hg1=>?_) (fun hg1=>?_)
  ·refine Qk Z Z (Qe Z) Z (Qk Z Z (Qd V6 Z) Z (Qk Z Z (Qj Y6 Z (h1.one 3 Z)) Z (Qk Z Z (He Z Z) Z (Qa (Qr Z Z) Z (Ql ⟨Z,Z,Z,Z,Z,Z,Z,Z,Z,Z,Z,Z,Z,Z,Z,Z,Z,Z,congrArg (fun b=>some (Value.bool b)) (show (decide (((Yk xs x.op x.epoch x.key).1) ≤ x.val)) = (((Yk xs x.op x.epoch x.key).2) && (decide (((Yk xs x.op x.epoch x.key).1) ≤ x.val))) by first | (rw [hg1] <;> rfl) | (simp [hg1];done) | (simp only [Qp] <;> simp)),trivial⟩ Z)))))
  ·refine Qc Z Z Z Z (Qc Z Z Z Z (Qc Z Z Z Z (Qc Z Z Z Z (Qa (Qq Z Z) Z (Ql ⟨Z,Z,Z,Z,Z,Z,Z,Z,Z,Z,Z,Z,Z,Z,Z,Z,Z,Z,congrArg (fun b=>some (Value.bool b)) (show false = (((Yk xs x.op x.epoch x.key).2) && (decide (((Yk xs x.op x.epoch x.key).1) ≤ x.val))) by first | (rw [hg1] <;> rfl) | (simp [hg1];done) | (simp only [Qp] <;> simp)),trivial⟩ Z)))))
 rintro _ rfl
 refine Qf (Qw Z (fun hc1=>?_) (fun hc1=>?_))
 ·refine Qh (Qi [true,false,true,true] Z Z (Qa (Qe Z) Z (Qv Tryz.call52 Z (c_copyCells vxs xs _ (hxs.ext E) (by first | omega | (simp only [Qt];omega) | (rw [Qt];done) | (simp only [Qt];done))) Z (fun v1 w4 e3 ho1=>?_))))
  have g_ho1 : w.heap.size ≤ w2.heap.size:=E.size
  replace E:=E.trans e3;replace h1:=h1.ext e3
  have z3:=e3.size
  refine Qa (Qg Z) Z (Qa (Qg Z) Z (Qf (Qx (Yo (l:=[.tmp 4,.tmp 5]) (vs:=[v1,.bool false]) Z ⟨.tmp Z,.tmp Z,trivial⟩ Z E ?_))))
  rw [Ua hc1]
  exact ⟨_,Z,Own.fin ho1 (by omega) (by omega) Z⟩
 ·refine Qy (Qh (Qi [true,false,true,false,true] Z Z (Qa (Qe Z) Z (Qv Tryz.call52 Z (c_copyCells vxs xs _ (hxs.ext E) (by first | omega | (simp only [Qt];omega) | (rw [Qt];done) | (simp only [Qt];done))) Z (fun v2 w5 e4 ho2=>?_)))))
  have g_ho2 : w.heap.size ≤ w2.heap.size:=E.size
  replace E:=E.trans e4;replace h1:=h1.ext e4
  have z4:=e4.size
  refine Qa (Ac Z Z) Z (Yu Tryz.call98 Z (by rfl) (c_DeleteFuncCell v2 w2.heap.size w5.heap.size xs (.func (.func 99) [].toArray [.pointer (some ⟨b1,0,none⟩)].toArray) ((fun (y : Cell)=>Kx x y)) _ ho2 ⟨99,[],[.pointer (some ⟨b1,0,none⟩)],Z,Tryz.call99,fun y wX eX=>c_better1 y b1 x wX (At.modR (Blk.at h1) eX (by omega))⟩ (by omega)) Z (fun v3 w6 e5 ho3=>?_))
  replace E:=E.stepR e5 (by omega);replace h1:=h1.modR e5 (by omega)
  have z5:=e5.size
  refine Qa (Qg Z) Z (Qf (Qh (Qi [true,true,false,true,true] Z Z (Qa (Qe Z) Z (Qa (Qo Ku Z h1.at Z) Z (Qv Tryz.call82 Z (c_PutCell v3 (List.filter (fun y=>!((fun (y : Cell)=>Kx x y) y)) xs) x _ (Own.rd (by decide) ho3) (Nat.le_trans (List.length_filter_le _ _) (by omega))) Z (fun v4 w7 e6 ho4=>?_)))))))
  have g_ho4 : w.heap.size ≤ w6.heap.size:=E.size
  replace E:=E.trans e6;replace h1:=h1.ext e6;replace ho3:=ho3.ext e6
  have z6:=e6.size
  refine Qa (Qg Z) Z (Qa (Qg Z) Z (Qf (Qx (Yo (l:=[.tmp 4,.tmp 5]) (vs:=[v4,.bool true]) Z ⟨.tmp Z,.tmp Z,trivial⟩ Z E ?_))))
  rw [Vl hc1]
  exact ⟨_,Z,Own.fin ho4 (by omega) (by omega) Z⟩

set_option maxRecDepth 20000 in
theorem c_Recall (kind : Int) (vxs : Value) (xs : List Cell) (x : Cell) (w : World) (hxs : RdS w vxs xs) (hb : xs.length ≤ 4194304) : Ct Tryz.prog 60 [.int .i64 kind,vxs,.agg (Enc.enc x).toArray] w (fun v w'=>∃ u0,v = .tuple [u0,.bool ((X1 kind xs x).2)].toArray ∧ Own w' w.heap.size w'.heap.size 4 u0 (List.flatMap (Enc.enc (α:=Cell)) ((X1 kind xs x).1))):=by
 refine Yx Tryz.func60 Z Tryz.ntmps60 Z ?_
 refine Yh [(0,.int .i64 kind),(1,vxs),(2,.agg (Enc.enc x).toArray)] ⟨Z,Z,Z,trivial⟩ ?_
 have E : Ext w w:=Ext.refl w
 refine Qh (Qi [false,true,true] Z Z (Y5 Z Z (fun b1 w1 e1 s1 h1=>?_)))
 have g_b1 : w.heap.size ≤ b1:=by have:=E.size;omega
 have y_b1:=h1.lt
 replace E:=E.trans e1
 have z1:=e1.size
 refine Qa (Qg Z) Z (Qa (Qg Z) Z (Qf (Qh (Qh (Qi [true] Z Z (Qa (Qe Z) Z (Qf (Q9 (Qh (Qh (Qi [true,true] Z Z (Qa (Yq Z Z) Z (Qa (Qg Z) Z (Qf (Qw Z (fun hc1=>?_) (fun hc1=>?_))))))))))))))))
 ·refine Qy (V8 Z hc1 (Qh (Qi [true,true,false,true,true,true,true] Z Z (Qa (Qe Z) Z (Qa (Qo Ku Z h1.at Z) Z (Qv Tryz.call81 Z (c_better vxs xs x _ (hxs.ext E) (by first | omega | (simp only [Qt];omega) | (rw [Qt];done) | (simp only [Qt];done))) Z (fun _ w2 e2 ho1=>?_)))))))
  obtain ⟨v1,rfl,ho2⟩:=ho1
  have g_ho1 : w.heap.size ≤ w1.heap.size:=E.size
  replace E:=E.trans e2;replace h1:=h1.ext e2
  have z2:=e2.size
  refine Qa (Q5 Z Z) Z (Qa (Q5 Z Z) Z (Qa (Qg Z) Z (Qa (Qg Z) Z (Qf (Qx (Qz (Yo (l:=[.tmp 6,.tmp 7]) (vs:=[v1,.bool ((Xe xs x).2)]) Z ⟨.tmp Z,.tmp Z,trivial⟩ Z E ?_)))))))
  rw [V4 (.inl (by assumption))]
  exact ⟨_,Z,Own.fin ho2 (by omega) (by omega) Z⟩
 ·refine Qi [true,true] Z Z (Qa (Yq Z Z) Z (Qa (Qg Z) Z (Qf (Qw Z (fun hc2=>?_) (fun hc2=>?_)))))
  ·refine Qh (Qi [true,true,false,true,true,true,true] Z Z (Qa (Qe Z) Z (Qa (Qo Ku Z h1.at Z) Z (Qv Tryz.call81 Z (c_better vxs xs x _ (hxs.ext E) (by first | omega | (simp only [Qt];omega) | (rw [Qt];done) | (simp only [Qt];done))) Z (fun _ w3 e3 ho3=>?_)))))
   obtain ⟨v2,rfl,ho4⟩:=ho3
   have g_ho3 : w.heap.size ≤ w1.heap.size:=E.size
   replace E:=E.trans e3;replace h1:=h1.ext e3
   have z3:=e3.size
   refine Qa (Q5 Z Z) Z (Qa (Q5 Z Z) Z (Qa (Qg Z) Z (Qa (Qg Z) Z (Qf (Qx (Qz (Yo (l:=[.tmp 6,.tmp 7]) (vs:=[v2,.bool ((Xe xs x).2)]) Z ⟨.tmp Z,.tmp Z,trivial⟩ Z E ?_)))))))
   rw [V4 (.inr (by assumption))]
   exact ⟨_,Z,Own.fin ho4 (by omega) (by omega) Z⟩
  ·refine Qh (Qi [true,true] Z Z (Qa (Yq Z Z) Z (Qa (Qg Z) Z (Qf (Qw Z (fun hc3=>?_) (fun hc3=>?_))))))
   ·refine Qh (Xu Xo [(0,true),(1,true),(3,true),(4,true),(2,false),(5,false),(6,true),(7,true),(8,true)] (by decide +kernel) Z (fun w4 e4=>?_))
    replace E:=E.trans e4;replace h1:=h1.ext e4
    have z4:=e4.size
    refine Qa (Qe Z) Z (Qa (Qo Ku Z h1.at Z) Z (Qa (Qe Z) Z (Qa (Qo Ku Z h1.at Z) Z (Qv Tryz.call82 Z (c_PutCell vxs xs x _ (hxs.ext E) (by first | omega | (simp only [Qt];omega) | (rw [Qt];done) | (simp only [Qt];done))) Z (fun v3 w5 e5 ho5=>?_)))))
    have g_ho5 : w.heap.size ≤ w4.heap.size:=E.size
    replace E:=E.trans e5;replace h1:=h1.ext e5
    have z5:=e5.size
    refine Qv Tryz.call83 Z (c_HasCell vxs xs x _ (hxs.ext E)) Z (fun _ w6 e6 hv=>?_)
    subst hv
    replace E:=E.trans e6;replace h1:=h1.ext e6;replace ho5:=ho5.ext e6
    have z6:=e6.size
    refine Qa (Y1 Z) Z (Qa (Qg Z) Z (Qa (Qg Z) Z (Qf (Qx (Qz (Yo (l:=[.tmp 6,.tmp 7]) (vs:=[v3,.bool (!(decide (x ∈ xs)))]) Z ⟨.tmp Z,.tmp Z,trivial⟩ Z E ?_))))))
    rw [Tu (by assumption)]
    exact ⟨_,Z,Own.fin ho5 (by omega) (by omega) Z⟩
   ·refine Qy (Yb (Yv (Qh (Qi [true,false,true,true] Z Z (Qa (Qe Z) Z (Qv Tryz.call52 Z (c_copyCells vxs xs _ (hxs.ext E) (by first | omega | (simp only [Qt];omega) | (rw [Qt];done) | (simp only [Qt];done))) Z (fun v4 w7 e7 ho6=>?_)))))))
    have g_ho6 : w.heap.size ≤ w1.heap.size:=E.size
    replace E:=E.trans e7;replace h1:=h1.ext e7
    have z7:=e7.size
    refine Qa (Qg Z) Z (Qa (Qg Z) Z (Qf (Qx (Yo (l:=[.tmp 6,.tmp 7]) (vs:=[v4,.bool true]) Z ⟨.tmp Z,.tmp Z,trivial⟩ Z E ?_))))
    rw [Tt (by assumption) (by assumption) (by assumption)]
    exact ⟨_,Z,Own.fin ho6 (by omega) (by omega) Z⟩

set_option maxHeartbeats 4000000 in
set_option maxRecDepth 20000 in
theorem s_Recall (kind : Int) (vxs : Value) (xs : List Cell) (x : Cell) (w : World) (hxs : RdS w vxs xs) (hb : xs.length ≤ 4194304) : Ct Tryz.prog 67 [.int .i64 kind,vxs,.agg (Enc.enc x).toArray] w (fun v w'=>∃ u0,v = .tuple [u0,.bool ((X1 kind xs x).2)].toArray ∧ Own w' w.heap.size w'.heap.size 4 u0 (List.flatMap (Enc.enc (α:=Cell)) ((X1 kind xs x).1))):=by
 refine Yx Tryz.func67 Z Tryz.ntmps67 Z ?_
 refine Yh [(0,.int .i64 kind),(1,vxs),(2,.agg (Enc.enc x).toArray)] ⟨Z,Z,Z,trivial⟩ ?_
 have E : Ext w w:=Ext.refl w
 refine Qh (Qi [false,true,true] Z Z (Y5 Z Z (fun b1 w1 e1 s1 h1=>?_)))
 have g_b1 : w.heap.size ≤ b1:=by have:=E.size;omega
 have y_b1:=h1.lt
 replace E:=E.trans e1
 have z1:=e1.size
 refine Qa (Qg Z) Z (Qa (Qg Z) Z (Qf (Qh (Qi [false,true,false,true] Z Z (Q8 (vs:=[]) (css:=[]) X0 Z Z trivial Z Z (fun b2 w2 e2 s2 h2=>?_))))))
 replace h2 : Blk w2 b2 []:=h2
 have g_b2 : w.heap.size ≤ b2:=by have:=E.size;omega
 have y_b2:=h2.lt
 replace E:=E.trans e2;replace h1:=h1.ext e2
 have z2:=e2.size
 refine Qa (Qe Z) Z (K2 X0 Z Z (Own.ofBlk (lo:=b2) (hi:=b2 + 1) (sz:=4) h2 (Nat.le_refl _) (Nat.lt_succ_self _) (by simp) (by simp [maxLen])) (RdS.src (hxs.ext E)) (Xp _) (by first | (simp only [Ya,List.length_nil,List.length_cons];simp only [Enc.sz];omega) | (have h:=C3 xs (fun y=>!(Kx x y)) k;simp only [show Enc.sz Cell = 4 from Z] at h;simp only [List.length_cons,List.length_nil];omega)) (by decide) (by omega) (by omega) Z Z (fun v1 w3 m1 ho1=>?_))
 replace E:=E.step m1 (fun g hg=>by have:=Own.blk (Own.ofBlk (lo:=b2) (hi:=b2 + 1) (sz:=4) h2 (Nat.le_refl _) (Nat.lt_succ_self _) (by simp) (by simp [maxLen])) g hg;omega);replace h1:=h1.mod m1 (fun g hg=>by have:=Own.blk (Own.ofBlk (lo:=b2) (hi:=b2 + 1) (sz:=4) h2 (Nat.le_refl _) (Nat.lt_succ_self _) (by simp) (by simp [maxLen])) g hg;omega)
 have z3:=m1.size
 refine Qa (Qg Z) Z (Qf (Qh (Qh (Qi [true] Z Z (Qa (Qe Z) Z (Qf (Q9 (Qh (Qi [true,true] Z Z (Qa (Yq Z Z) Z (Qa (Qg Z) Z (Qf (Qw Z (fun hc1=>?_) (fun hc1=>?_))))))))))))))
 ·refine Qh (Qh (Qi [true,true,false] Z Z (Qa (Qe Z) Z (Qa (Qo Ku Z h1.at Z) Z (Qv Tryz.call86 Z (s_HasCell vxs xs x _ (hxs.ext E)) Z (fun _ w4 e3 hv=>?_))))))
  subst hv
  replace E:=E.trans e3;replace h1:=h1.ext e3;replace ho1:=ho1.ext e3
  have z4:=e3.size
  refine Qf (Qw Z (fun hc2=>?_) (fun hc2=>?_))
  ·refine Qh (Qi [true,true,true] Z Z (Qa (Qe Z) Z (Qa (Qg Z) Z (Qa (Qg Z) Z (Qf (Qx (Qz (Yo (l:=[.tmp 6,.tmp 7]) (vs:=[v1,.bool false]) Z ⟨.tmp Z,.tmp Z,trivial⟩ Z E ?_))))))))
   rw [recallM_h (by assumption) (by assumption)]
   exact ⟨_,Z,Own.fin ho1 (by omega) (by omega) (by first | rfl | simp only [List.nil_append])⟩
  ·refine Qy (Qh (Qi [true,true,false,true,true] Z Z (Qa (Qe Z) Z (Qa (Qo Ku Z h1.at Z) Z (Qv Tryz.call87 Z (s_PutCell vxs xs x _ (hxs.ext E) (by omega)) Z (fun v2 w5 e4 ho2=>?_))))))
   have g_ho2 : w.heap.size ≤ w4.heap.size:=E.size
   replace E:=E.trans e4;replace h1:=h1.ext e4;replace ho1:=ho1.ext e4
   have z5:=e4.size
   refine Qa (Qg Z) Z (Qa (Qg Z) Z (Qf (Qx (Qz (Yo (l:=[.tmp 6,.tmp 7]) (vs:=[v2,.bool true]) Z ⟨.tmp Z,.tmp Z,trivial⟩ Z E ?_)))))
   rw [recallM_i (by assumption) (by assumption)]
   exact ⟨_,Z,Own.fin ho2 (by omega) (by omega) (by first | rfl | simp only [List.nil_append])⟩
 ·refine Qh (Qh (Qi [true,true] Z Z (Qa (Yq Z Z) Z (Qa (Qg Z) Z (Qf (Qw Z (fun hc3=>?_) (fun hc3=>?_)))))))
  ·refine Qy (V8 Z hc3 (Qh (Qi [true,true,true,true,true,true,true,false,true,true,true,true,true] Z Z (Qa (Qe Z) Z (Qa (Qd Ve Z) Z (Qa (Qj Y6 Z (h1.one 0 Z)) Z (Qa (Qd Vd Z) Z (Qa (Qj Y6 Z (h1.one 1 Z)) Z (Qa (Qd Vc Z) Z (Qa (Qj Y6 Z (h1.one 2 Z)) Z (Qv Tryz.call88 Z (s_LeastOf vxs xs x.op x.epoch x.key _ (hxs.ext E)) Z (fun _ w6 e5 hv=>?_))))))))))))
   subst hv
   replace E:=E.trans e5;replace h1:=h1.ext e5;replace ho1:=ho1.ext e5
   have z6:=e5.size
   refine Qa (Qe Z) Z (Qa (Q5 Z Z) Z (Qa (Q5 Z Z) Z (Qa (Qg Z) Z (Qa (Qg Z) Z (Qf (Qh (Qh (Qi [true,true,true,true,true,true,true] Z Z (Qa (Qe Z) Z (Qa (Qe Z) Z (Xg 5 [(0,.int .i64 kind),(1,vxs),(2,.agg (Enc.enc x).toArray),(5,.pointer (some ⟨b1,0,none⟩)),(6,.slice none 0 0),(7,.bool false),(8,v1),(9,.int .i64 ((Yk xs x.op x.epoch x.key).1)),(10,.bool ((Yk xs x.op x.epoch x.key).2)),(13,.slice (some ⟨b2,0,none⟩) 0 0),(14,vxs),(15,v1),(16,.int .i64 kind),(17,.bool (kind == 6)),(18,.bool (kind == 6)),(26,.bool (kind == 5)),(27,.bool (kind == 5)),(29,.tuple [.int .i64 ((Yk xs x.op x.epoch x.key).1),.bool ((Yk xs x.op x.epoch x.key).2)].toArray),(30,vxs),(31,.pointer (some ⟨b1,0,none⟩)),(32,.int .i64 x.op),(33,.pointer (some ⟨b1,1,none⟩)),(34,.int .i64 x.epoch),(35,.pointer (some ⟨b1,2,none⟩)),(36,.int .i64 x.key),(37,.tuple [.int .i64 ((Yk xs x.op x.epoch x.key).1),.bool ((Yk xs x.op x.epoch x.key).2)].toArray),(38,.int .i64 ((Yk xs x.op x.epoch x.key).1)),(39,.bool ((Yk xs x.op x.epoch x.key).2)),(46,.bool (((Yk xs x.op x.epoch x.key).2) && (decide (((Yk xs x.op x.epoch x.key).1) ≤ x.val))))] (fun w'=>w6 = w') ?_ ?_)))))))))))
   ·refine Ym (gd:=41) Z Z (fun hg1=>?_) (fun hg1=>?_)
    ·refine Qk Z Z (Qe Z) Z (Qk Z Z (Qd V6 Z) Z (Qk Z Z (Qj Y6 Z (h1.one 3 Z)) Z (Qk Z Z (He Z Z) Z (Qa (Qr Z Z) Z (Ql ⟨Z,Z,Z,Z,Z,Z,Z,Z,Z,Z,Z,Z,Z,Z,Z,Z,Z,Z,Z,Z,Z,Z,Z,Z,Z,Z,Z,Z,congrArg (fun b=>some (Value.bool b)) (show (decide (((Yk xs x.op x.epoch x.key).1) ≤ x.val)) = (((Yk xs x.op x.epoch x.key).2) && (decide (((Yk xs x.op x.epoch x.key).1) ≤ x.val))) by first | (rw [hg1] <;> rfl) | (simp [hg1];done) | (simp only [Qp] <;> simp)),trivial⟩ Z)))))
    ·refine Qc Z Z Z Z (Qc Z Z Z Z (Qc Z Z Z Z (Qc Z Z Z Z (Qa (Qq Z Z) Z (Ql ⟨Z,Z,Z,Z,Z,Z,Z,Z,Z,Z,Z,Z,Z,Z,Z,Z,Z,Z,Z,Z,Z,Z,Z,Z,Z,Z,Z,Z,congrArg (fun b=>some (Value.bool b)) (show false = (((Yk xs x.op x.epoch x.key).2) && (decide (((Yk xs x.op x.epoch x.key).1) ≤ x.val))) by first | (rw [hg1] <;> rfl) | (simp [hg1];done) | (simp only [Qp] <;> simp)),trivial⟩ Z)))))
   rintro _ rfl
   refine Qf (Qw Z (fun hc4=>?_) (fun hc4=>?_))
   ·refine Qh (Qi [true,true,true] Z Z (Qa (Qe Z) Z (Qa (Qg Z) Z (Qa (Qg Z) Z (Qf (Qx (Qz (Yo (l:=[.tmp 6,.tmp 7]) (vs:=[v1,.bool false]) Z ⟨.tmp Z,.tmp Z,trivial⟩ Z E ?_))))))))
    rw [V4 (.inl (by assumption)),Ua (by assumption)]
    exact ⟨_,Z,Own.fin ho1 (by omega) (by omega) (by first | rfl | simp only [List.nil_append])⟩
   ·refine Qy (Qh (Qi [false,true] Z Z (Q8 (vs:=[]) (css:=[]) X0 Z Z trivial Z Z (fun b3 w8 e6 s3 h3=>?_))))
    replace h3 : Blk w8 b3 []:=h3
    have g_b3 : w.heap.size ≤ b3:=by have:=E.size;omega
    have y_b3:=h3.lt
    replace E:=E.trans e6;replace h1:=h1.ext e6;replace ho1:=ho1.ext e6
    have z7:=e6.size
    refine Qa (Qg Z) Z (Qf (Qh (Qh (Qi [true] Z Z (Qa (Qg Z) Z (Qf (Q9 (Xk (fun (xq : Nat × Value)=>let ⟨k,vo⟩:=xq;[(1,vxs),(5,.pointer (some ⟨b1,0,none⟩)),(6,.slice none 0 0),(7,.bool false),(8,v1),(11,vo),(12,.int .i64 ((k : Nat) : Int))]) (fun (xq : Nat × Value) w'=>let ⟨k,vo⟩:=xq;Ext w w' ∧ w8.heap.size ≤ w'.heap.size ∧ Blk w' b1 (Enc.enc x) ∧ Own w' b2 w3.heap.size 4 v1 ([] ++ List.flatMap (Enc.enc (α:=Cell)) xs) ∧ k ≤ xs.length ∧ Own w' b3 w'.heap.size 4 vo (List.flatMap (Enc.enc (α:=Cell)) ((xs.take k).filter (fun y=>!(Kx x y))))) (fun (xq : Nat × Value)=>let ⟨k,vo⟩:=xq;xs.length - k) (0,.slice (some ⟨b3,0,none⟩) 0 0) ⟨Z,Z,Z,Z,Z,Z,Z,trivial⟩ ⟨E,Nat.le_refl _,h1,ho1,Nat.zero_le _,Own.fin (Own.ofBlk (lo:=b3) (hi:=b3 + 1) (sz:=4) h3 (Nat.le_refl _) (Nat.lt_succ_self _) (by simp) (by simp [maxLen])) (by have:=E.size;omega) (by omega) Z⟩ ?_))))))))
    clear E h1 ho1 h3
    rintro ⟨k,vo⟩ w9 ⟨E,z8,h1,ho1,hk,ho⟩
    refine Yh [(1,vxs),(5,.pointer (some ⟨b1,0,none⟩)),(6,.slice none 0 0),(7,.bool false),(8,v1),(11,vo),(12,.int .i64 ((k : Nat) : Int))] ⟨Z,Z,Z,Z,Z,Z,Z,trivial⟩ ?_
    refine Qh (Qh (Qi [true,true,true,true] Z Z (Qa (Qe Z) Z (Qa (Qe Z) Z (Qa (Yg Tryz.underlying28 Z (hxs.ext E).len) Z (Qa (Xn Z Z) Z (Qf (Qw Z (fun hc5=>?_) (fun hc5=>?_)))))))))
    ·have hc5n : k < xs.length:=by first | (have h:=of_decide_eq_true hc5;omega) | (have h:=hc5;simp at h;omega)
     refine Qy (Qh (Q9 (Qh (Xu Xo [(0,true),(1,true),(2,true),(3,true),(4,true),(5,true),(6,true),(7,true),(8,true),(9,true),(10,true),(11,true),(12,true),(13,true),(14,true),(15,true),(16,true),(17,true),(18,true),(19,true),(20,true),(21,true),(22,true),(23,true),(24,true),(25,true),(26,true),(27,true)] (by decide +kernel) Z (fun w10 e7=>?_)))))
     replace E:=E.trans e7;replace h1:=h1.ext e7;replace ho1:=ho1.ext e7;replace ho:=ho.ext e7
     have z9:=e7.size
     refine Qa (Qe Z) Z (Qa (Qe Z) Z ?_)
     have hi1 : k < xs.length:=(by first | assumption | omega | (simp only [List.length_set];first | assumption | omega) | (simp only [List.getElem_set_self,List.length_set];first | assumption | omega) | (simp only [Xc,Yp,List.length_set];first | assumption | omega) | (simp;done))
     refine Qa (Ye (i:=k) X0 Z Z (hxs.ext E) hi1) Z (Qa (Yt Ve Z) Z (Qa (Qj Y6 Z (((hxs.ext E).get hi1).one 0 Z)) Z (Qa (Qd Ve Z) Z (Qa (Qj Y6 Z (h1.one 0 Z)) Z (Qa (Xs Z Z) Z (Qa (Qe Z) Z (Xg 19 [(1,vxs),(5,.pointer (some ⟨b1,0,none⟩)),(6,.slice none 0 0),(7,.bool false),(8,v1),(11,vo),(12,.int .i64 ((k : Nat) : Int)),(49,.int .i64 ((k : Nat) : Int)),(50,vxs),(51,.int .i64 ((xs.length : Nat) : Int)),(52,.bool (decide (((k : Nat) : Int) < ((xs.length : Nat) : Int)))),(82,.bool (((((xs[k]'hi1).op) != x.op) || (((xs[k]'hi1).epoch) != x.epoch)) || (((xs[k]'hi1).key) != x.key)))] (fun w'=>w10 = w') ?_ ?_)))))))
     ·refine Ym (gd:=63) Z Z (fun hg2=>?_) (fun hg2=>?_)
      ·refine Qc Z Z Z Z (Qc Z Z Z Z (Qc Z Z Z Z (Qc Z Z Z Z (Qc Z Z Z Z (Qc Z Z Z Z (Qc Z Z Z Z (Qc Z Z Z Z (Qa (Qr Z Z) Z (Qa (Qe Z) Z (Qc Z Z Z Z (Qc Z Z Z Z (Qc Z Z Z Z (Qc Z Z Z Z (Qc Z Z Z Z (Qc Z Z Z Z (Qc Z Z Z Z (Qc Z Z Z Z (Qa (Qr Z Z) Z (Ql ⟨Z,Z,Z,Z,Z,Z,Z,Z,Z,Z,Z,congrArg (fun b=>some (Value.bool b)) (show true = (((((xs[k]'hi1).op) != x.op) || (((xs[k]'hi1).epoch) != x.epoch)) || (((xs[k]'hi1).key) != x.key)) by first | (rw [hg2] <;> rfl) | (simp [hg2];done) | (simp only [Qp] <;> simp)),trivial⟩ Z)))))))))))))))))))
      ·refine Qk Z Z (Qe Z) Z (Qk Z Z (Qe Z) Z (Qk Z Z (Ye (i:=k) X0 Z Z (hxs.ext E) hi1) Z (Qk Z Z (Yt Vd Z) Z (Qk Z Z (Qj Y6 Z (((hxs.ext E).get hi1).one 1 Z)) Z (Qk Z Z (Qd Vd Z) Z (Qk Z Z (Qj Y6 Z (h1.one 1 Z)) Z (Qk Z Z (Xs Z Z) Z (Qa (Qq Z Z) Z (Qa (Qe Z) Z ?_)))))))))
       refine Ym (gd:=73) Z Z (fun hg3=>?_) (fun hg3=>?_)
       ·refine Qc Z Z Z Z (Qc Z Z Z Z (Qc Z Z Z Z (Qc Z Z Z Z (Qc Z Z Z Z (Qc Z Z Z Z (Qc Z Z Z Z (Qc Z Z Z Z (Qa (Qr Z Z) Z (Ql ⟨Z,Z,Z,Z,Z,Z,Z,Z,Z,Z,Z,congrArg (fun b=>some (Value.bool b)) (show true = (((((xs[k]'hi1).op) != x.op) || (((xs[k]'hi1).epoch) != x.epoch)) || (((xs[k]'hi1).key) != x.key)) by first | (rw [hg2,hg3] <;> rfl) | (simp [hg2,hg3];done) | (simp only [Qp] <;> simp)),trivial⟩ Z)))))))))
       ·refine Qk Z Z (Qe Z) Z (Qk Z Z (Qe Z) Z (Qk Z Z (Ye (i:=k) X0 Z Z (hxs.ext E) hi1) Z (Qk Z Z (Yt Vc Z) Z (Qk Z Z (Qj Y6 Z (((hxs.ext E).get hi1).one 2 Z)) Z (Qk Z Z (Qd Vc Z) Z (Qk Z Z (Qj Y6 Z (h1.one 2 Z)) Z (Qk Z Z (Xs Z Z) Z (Qa (Qq Z Z) Z (Ql ⟨Z,Z,Z,Z,Z,Z,Z,Z,Z,Z,Z,congrArg (fun b=>some (Value.bool b)) (show (((xs[k]'hi1).key) != x.key) = (((((xs[k]'hi1).op) != x.op) || (((xs[k]'hi1).epoch) != x.epoch)) || (((xs[k]'hi1).key) != x.key)) by first | (rw [hg2,hg3] <;> rfl) | (simp [hg2,hg3];done) | (simp only [Qp] <;> simp)),trivial⟩ Z)))))))))
     rintro _ rfl
     refine Qf (Qw Z (fun hc6=>?_) (fun hc6=>?_))
     ·refine Qi [true,true,true,true,true,false,false,true] Z Z (Qa (Qe Z) Z (Qa (Qe Z) Z (Qa (Qe Z) Z (Qa (Ye (i:=k) X0 Z Z (hxs.ext E) hi1) Z (Qa (Qo Ku Z ((hxs.ext E).get hi1) Z) Z (Q8 (vs:=[.agg (Enc.enc (xs[k]'hi1)).toArray]) (css:=[[.int .i64 ((xs[k]'hi1).op),.int .i64 ((xs[k]'hi1).epoch),.int .i64 ((xs[k]'hi1).key),.int .i64 ((xs[k]'hi1).val)]]) X0 Z Z ⟨⟨Z,Z⟩,trivial⟩ Z Z (fun b4 w12 e8 s4 h4=>?_)))))))
      replace h4 : Blk w12 b4 [.int .i64 ((xs[k]'hi1).op),.int .i64 ((xs[k]'hi1).epoch),.int .i64 ((xs[k]'hi1).key),.int .i64 ((xs[k]'hi1).val)]:=h4
      have g_b4 : w.heap.size ≤ b4:=by have:=E.size;omega
      have y_b4:=h4.lt
      replace E:=E.trans e8;replace h1:=h1.ext e8;replace ho1:=ho1.ext e8;replace ho:=ho.ext e8
      have z10:=e8.size
      refine K2 X0 Z Z ho (Src.ofBlk h4 Z) Z (by first | (simp only [Ya,List.length_nil,List.length_cons];simp only [Enc.sz];omega) | (have h:=C3 xs (fun y=>!(Kx x y)) k;simp only [show Enc.sz Cell = 4 from Z] at h;simp only [List.length_cons,List.length_nil];omega)) (by decide) (by omega) (by omega) Z Z (fun v3 w13 m2 ho3=>?_)
      replace E:=E.step m2 (fun g hg=>by have:=Own.blk ho g hg;omega);replace h1:=h1.mod m2 (fun g hg=>by have:=Own.blk ho g hg;omega);replace ho1:=ho1.mod m2 (fun g hg=>by have:=Own.blk ho g hg;omega)
      have z11:=m2.size
      refine Qa (Qg Z) Z (Qf (Yb (Yv (Qi [true,true,true] Z Z (Qa (Qe Z) Z (Qa (Yw Z Z (Y7 hc5n hxs.1)) Z (Qa (Qg Z) Z (Qf (Yb (Yy (k + 1,v3) (by simp;omega) ⟨Z,Z,Z,Z,Z,Z,Z,trivial⟩ ⟨E,(by omega),h1,ho1,(by omega),Own.fin ho3 (Nat.le_refl _) (by omega) (filt_yes (by assumption) (ns_yes (by assumption)))⟩))))))))))
     ·refine Qy (Yb (Yv (Qi [true,true,true] Z Z (Qa (Qe Z) Z (Qa (Yw Z Z (Y7 hc5n hxs.1)) Z (Qa (Qg Z) Z (Qf (Yb (Yy (k + 1,vo) (by simp;omega) ⟨Z,Z,Z,Z,Z,Z,Z,trivial⟩ ⟨E,(by omega),h1,ho1,(by omega),Own.fin ho (Nat.le_refl _) (by omega) (filt_no (by assumption) (ns_no (by assumption)))⟩)))))))))
    ·have hc5n : ¬ k < xs.length:=by first | (have h:=of_decide_eq_false hc5;omega) | (have h:=hc5;simp at h;omega)
     refine Xl (Ys (Yj ?_))
     refine Qh (Qi [true,true,false,true,true] Z Z (Qa (Qe Z) Z (Qa (Qo Ku Z h1.at Z) Z (Qv Tryz.call87 Z (s_PutCell vo ((xs.take k).filter (fun y=>!(Kx x y))) x _ (Own.rd (by decide) ho) (by have h1:=List.length_filter_le (fun y=>!(Kx x y)) (xs.take k);simp only [List.length_take] at h1;omega)) Z (fun v4 w14 e9 ho4=>?_)))))
     have g_ho4 : w.heap.size ≤ w9.heap.size:=E.size
     replace E:=E.trans e9;replace h1:=h1.ext e9;replace ho1:=ho1.ext e9;replace ho:=ho.ext e9
     have z12:=e9.size
     refine Qa (Qg Z) Z (Qa (Qg Z) Z (Qf (Qx (Qz (Yo (l:=[.tmp 6,.tmp 7]) (vs:=[v4,.bool true]) Z ⟨.tmp Z,.tmp Z,trivial⟩ Z E ?_)))))
     rw [V4 (.inl (by assumption)),Vl (by assumption)]
     exact ⟨_,Z,Own.fin ho4 (by omega) (by omega) (by simp only [List.nil_append,List.take_of_length_le (show xs.length ≤ k by omega)] <;> rfl)⟩
  ·refine Qi [true,true] Z Z (Qa (Yq Z Z) Z (Qa (Qg Z) Z (Qf (Qw Z (fun hc7=>?_) (fun hc7=>?_)))))
   ·refine Qh (Qi [true,true,true,true,true,true,true,false,true,true,true,true,true] Z Z (Qa (Qe Z) Z (Qa (Qd Ve Z) Z (Qa (Qj Y6 Z (h1.one 0 Z)) Z (Qa (Qd Vd Z) Z (Qa (Qj Y6 Z (h1.one 1 Z)) Z (Qa (Qd Vc Z) Z (Qa (Qj Y6 Z (h1.one 2 Z)) Z (Qv Tryz.call88 Z (s_LeastOf vxs xs x.op x.epoch x.key _ (hxs.ext E)) Z (fun _ w15 e10 hv=>?_))))))))))
    subst hv
    replace E:=E.trans e10;replace h1:=h1.ext e10;replace ho1:=ho1.ext e10
    have z13:=e10.size
    refine Qa (Qe Z) Z (Qa (Q5 Z Z) Z (Qa (Q5 Z Z) Z (Qa (Qg Z) Z (Qa (Qg Z) Z (Qf (Qh (Qh (Qi [true,true,true,true,true,true,true] Z Z (Qa (Qe Z) Z (Qa (Qe Z) Z (Xg 5 [(0,.int .i64 kind),(1,vxs),(2,.agg (Enc.enc x).toArray),(5,.pointer (some ⟨b1,0,none⟩)),(6,.slice none 0 0),(7,.bool false),(8,v1),(9,.int .i64 ((Yk xs x.op x.epoch x.key).1)),(10,.bool ((Yk xs x.op x.epoch x.key).2)),(13,.slice (some ⟨b2,0,none⟩) 0 0),(14,vxs),(15,v1),(16,.int .i64 kind),(17,.bool (kind == 6)),(18,.bool (kind == 6)),(26,.bool (kind == 8)),(27,.bool (kind == 5)),(28,.bool (kind == 8)),(29,.tuple [.int .i64 ((Yk xs x.op x.epoch x.key).1),.bool ((Yk xs x.op x.epoch x.key).2)].toArray),(30,vxs),(31,.pointer (some ⟨b1,0,none⟩)),(32,.int .i64 x.op),(33,.pointer (some ⟨b1,1,none⟩)),(34,.int .i64 x.epoch),(35,.pointer (some ⟨b1,2,none⟩)),(36,.int .i64 x.key),(37,.tuple [.int .i64 ((Yk xs x.op x.epoch x.key).1),.bool ((Yk xs x.op x.epoch x.key).2)].toArray),(38,.int .i64 ((Yk xs x.op x.epoch x.key).1)),(39,.bool ((Yk xs x.op x.epoch x.key).2)),(46,.bool (((Yk xs x.op x.epoch x.key).2) && (decide (((Yk xs x.op x.epoch x.key).1) ≤ x.val))))] (fun w'=>w15 = w') ?_ ?_)))))))))))
    ·refine Ym (gd:=41) Z Z (fun hg4=>?_) (fun hg4=>?_)
     ·refine Qk Z Z (Qe Z) Z (Qk Z Z (Qd V6 Z) Z (Qk Z Z (Qj Y6 Z (h1.one 3 Z)) Z (Qk Z Z (He Z Z) Z (Qa (Qr Z Z) Z (Ql ⟨Z,Z,Z,Z,Z,Z,Z,Z,Z,Z,Z,Z,Z,Z,Z,Z,Z,Z,Z,Z,Z,Z,Z,Z,Z,Z,Z,Z,Z,congrArg (fun b=>some (Value.bool b)) (show (decide (((Yk xs x.op x.epoch x.key).1) ≤ x.val)) = (((Yk xs x.op x.epoch x.key).2) && (decide (((Yk xs x.op x.epoch x.key).1) ≤ x.val))) by first | (rw [hg4] <;> rfl) | (simp [hg4];done) | (simp only [Qp] <;> simp)),trivial⟩ Z)))))
     ·refine Qc Z Z Z Z (Qc Z Z Z Z (Qc Z Z Z Z (Qc Z Z Z Z (Qa (Qq Z Z) Z (Ql ⟨Z,Z,Z,Z,Z,Z,Z,Z,Z,Z,Z,Z,Z,Z,Z,Z,Z,Z,Z,Z,Z,Z,Z,Z,Z,Z,Z,Z,Z,congrArg (fun b=>some (Value.bool b)) (show false = (((Yk xs x.op x.epoch x.key).2) && (decide (((Yk xs x.op x.epoch x.key).1) ≤ x.val))) by first | (rw [hg4] <;> rfl) | (simp [hg4];done) | (simp only [Qp] <;> simp)),trivial⟩ Z)))))
    rintro _ rfl
    refine Qf (Qw Z (fun hc8=>?_) (fun hc8=>?_))
    ·refine Qh (Qi [true,true,true] Z Z (Qa (Qe Z) Z (Qa (Qg Z) Z (Qa (Qg Z) Z (Qf (Qx (Qz (Yo (l:=[.tmp 6,.tmp 7]) (vs:=[v1,.bool false]) Z ⟨.tmp Z,.tmp Z,trivial⟩ Z E ?_))))))))
     rw [V4 (.inr (by assumption)),Ua (by assumption)]
     exact ⟨_,Z,Own.fin ho1 (by omega) (by omega) (by first | rfl | simp only [List.nil_append])⟩
    ·refine Qy (Qh (Qi [false,true] Z Z (Q8 (vs:=[]) (css:=[]) X0 Z Z trivial Z Z (fun b5 w17 e11 s5 h5=>?_))))
     replace h5 : Blk w17 b5 []:=h5
     have g_b5 : w.heap.size ≤ b5:=by have:=E.size;omega
     have y_b5:=h5.lt
     replace E:=E.trans e11;replace h1:=h1.ext e11;replace ho1:=ho1.ext e11
     have z14:=e11.size
     refine Qa (Qg Z) Z (Qf (Qh (Qh (Qi [true] Z Z (Qa (Qg Z) Z (Qf (Q9 (Xk (fun (xq : Nat × Value)=>let ⟨k,vo⟩:=xq;[(1,vxs),(5,.pointer (some ⟨b1,0,none⟩)),(6,.slice none 0 0),(7,.bool false),(8,v1),(11,vo),(12,.int .i64 ((k : Nat) : Int))]) (fun (xq : Nat × Value) w'=>let ⟨k,vo⟩:=xq;Ext w w' ∧ w17.heap.size ≤ w'.heap.size ∧ Blk w' b1 (Enc.enc x) ∧ Own w' b2 w3.heap.size 4 v1 ([] ++ List.flatMap (Enc.enc (α:=Cell)) xs) ∧ k ≤ xs.length ∧ Own w' b5 w'.heap.size 4 vo (List.flatMap (Enc.enc (α:=Cell)) ((xs.take k).filter (fun y=>!(Kx x y))))) (fun (xq : Nat × Value)=>let ⟨k,vo⟩:=xq;xs.length - k) (0,.slice (some ⟨b5,0,none⟩) 0 0) ⟨Z,Z,Z,Z,Z,Z,Z,trivial⟩ ⟨E,Nat.le_refl _,h1,ho1,Nat.zero_le _,Own.fin (Own.ofBlk (lo:=b5) (hi:=b5 + 1) (sz:=4) h5 (Nat.le_refl _) (Nat.lt_succ_self _) (by simp) (by simp [maxLen])) (by have:=E.size;omega) (by omega) Z⟩ ?_))))))))
     clear E h1 ho1 h5
     rintro ⟨k,vo⟩ w18 ⟨E,z15,h1,ho1,hk,ho⟩
     refine Yh [(1,vxs),(5,.pointer (some ⟨b1,0,none⟩)),(6,.slice none 0 0),(7,.bool false),(8,v1),(11,vo),(12,.int .i64 ((k : Nat) : Int))] ⟨Z,Z,Z,Z,Z,Z,Z,trivial⟩ ?_
     refine Qh (Qh (Qi [true,true,true,true] Z Z (Qa (Qe Z) Z (Qa (Qe Z) Z (Qa (Yg Tryz.underlying28 Z (hxs.ext E).len) Z (Qa (Xn Z Z) Z (Qf (Qw Z (fun hc9=>?_) (fun hc9=>?_)))))))))
     ·have hc9n : k < xs.length:=by first | (have h:=of_decide_eq_true hc9;omega) | (have h:=hc9;simp at h;omega)
      refine Qy (Qh (Q9 (Qh (Xu Xo [(0,true),(1,true),(2,true),(3,true),(4,true),(5,true),(6,true),(7,true),(8,true),(9,true),(10,true),(11,true),(12,true),(13,true),(14,true),(15,true),(16,true),(17,true),(18,true),(19,true),(20,true),(21,true),(22,true),(23,true),(24,true),(25,true),(26,true),(27,true)] (by decide +kernel) Z (fun w19 e12=>?_)))))
      replace E:=E.trans e12;replace h1:=h1.ext e12;replace ho1:=ho1.ext e12;replace ho:=ho.ext e12
      have z16:=e12.size
      refine Qa (Qe Z) Z (Qa (Qe Z) Z ?_)
      have hi2 : k < xs.length:=(by first | assumption | omega | (simp only [List.length_set];first | assumption | omega) | (simp only [List.getElem_set_self,List.length_set];first | assumption | omega) | (simp only [Xc,Yp,List.length_set];first | assumption | omega) | (simp;done))
      refine Qa (Ye (i:=k) X0 Z Z (hxs.ext E) hi2) Z (Qa (Yt Ve Z) Z (Qa (Qj Y6 Z (((hxs.ext E).get hi2).one 0 Z)) Z (Qa (Qd Ve Z) Z (Qa (Qj Y6 Z (h1.one 0 Z)) Z (Qa (Xs Z Z) Z (Qa (Qe Z) Z (Xg 19 [(1,vxs),(5,.pointer (some ⟨b1,0,none⟩)),(6,.slice none 0 0),(7,.bool false),(8,v1),(11,vo),(12,.int .i64 ((k : Nat) : Int)),(49,.int .i64 ((k : Nat) : Int)),(50,vxs),(51,.int .i64 ((xs.length : Nat) : Int)),(52,.bool (decide (((k : Nat) : Int) < ((xs.length : Nat) : Int)))),(82,.bool (((((xs[k]'hi2).op) != x.op) || (((xs[k]'hi2).epoch) != x.epoch)) || (((xs[k]'hi2).key) != x.key)))] (fun w'=>w19 = w') ?_ ?_)))))))
      ·refine Ym (gd:=63) Z Z (fun hg5=>?_) (fun hg5=>?_)
       ·refine Qc Z Z Z Z (Qc Z Z Z Z (Qc Z Z Z Z (Qc Z Z Z Z (Qc Z Z Z Z (Qc Z Z Z Z (Qc Z Z Z Z (Qc Z Z Z Z (Qa (Qr Z Z) Z (Qa (Qe Z) Z (Qc Z Z Z Z (Qc Z Z Z Z (Qc Z Z Z Z (Qc Z Z Z Z (Qc Z Z Z Z (Qc Z Z Z Z (Qc Z Z Z Z (Qc Z Z Z Z (Qa (Qr Z Z) Z (Ql ⟨Z,Z,Z,Z,Z,Z,Z,Z,Z,Z,Z,congrArg (fun b=>some (Value.bool b)) (show true = (((((xs[k]'hi2).op) != x.op) || (((xs[k]'hi2).epoch) != x.epoch)) || (((xs[k]'hi2).key) != x.key)) by first | (rw [hg5] <;> rfl) | (simp [hg5];done) | (simp only [Qp] <;> simp)),trivial⟩ Z)))))))))))))))))))
       ·refine Qk Z Z (Qe Z) Z (Qk Z Z (Qe Z) Z (Qk Z Z (Ye (i:=k) X0 Z Z (hxs.ext E) hi2) Z (Qk Z Z (Yt Vd Z) Z (Qk Z Z (Qj Y6 Z (((hxs.ext E).get hi2).one 1 Z)) Z (Qk Z Z (Qd Vd Z) Z (Qk Z Z (Qj Y6 Z (h1.one 1 Z)) Z (Qk Z Z (Xs Z Z) Z (Qa (Qq Z Z) Z (Qa (Qe Z) Z ?_)))))))))
        refine Ym (gd:=73) Z Z (fun hg6=>?_) (fun hg6=>?_)
        ·refine Qc Z Z Z Z (Qc Z Z Z Z (Qc Z Z Z Z (Qc Z Z Z Z (Qc Z Z Z Z (Qc Z Z Z Z (Qc Z Z Z Z (Qc Z Z Z Z (Qa (Qr Z Z) Z (Ql ⟨Z,Z,Z,Z,Z,Z,Z,Z,Z,Z,Z,congrArg (fun b=>some (Value.bool b)) (show true = (((((xs[k]'hi2).op) != x.op) || (((xs[k]'hi2).epoch) != x.epoch)) || (((xs[k]'hi2).key) != x.key)) by first | (rw [hg5,hg6] <;> rfl) | (simp [hg5,hg6];done) | (simp only [Qp] <;> simp)),trivial⟩ Z)))))))))
        ·refine Qk Z Z (Qe Z) Z (Qk Z Z (Qe Z) Z (Qk Z Z (Ye (i:=k) X0 Z Z (hxs.ext E) hi2) Z (Qk Z Z (Yt Vc Z) Z (Qk Z Z (Qj Y6 Z (((hxs.ext E).get hi2).one 2 Z)) Z (Qk Z Z (Qd Vc Z) Z (Qk Z Z (Qj Y6 Z (h1.one 2 Z)) Z (Qk Z Z (Xs Z Z) Z (Qa (Qq Z Z) Z (Ql ⟨Z,Z,Z,Z,Z,Z,Z,Z,Z,Z,Z,congrArg (fun b=>some (Value.bool b)) (show (((xs[k]'hi2).key) != x.key) = (((((xs[k]'hi2).op) != x.op) || (((xs[k]'hi2).epoch) != x.epoch)) || (((xs[k]'hi2).key) != x.key)) by first | (rw [hg5,hg6] <;> rfl) | (simp [hg5,hg6];done) | (simp only [Qp] <;> simp)),trivial⟩ Z)))))))))
      rintro _ rfl
      refine Qf (Qw Z (fun hc10=>?_) (fun hc10=>?_))
      ·refine Qi [true,true,true,true,true,false,false,true] Z Z (Qa (Qe Z) Z (Qa (Qe Z) Z (Qa (Qe Z) Z (Qa (Ye (i:=k) X0 Z Z (hxs.ext E) hi2) Z (Qa (Qo Ku Z ((hxs.ext E).get hi2) Z) Z (Q8 (vs:=[.agg (Enc.enc (xs[k]'hi2)).toArray]) (css:=[[.int .i64 ((xs[k]'hi2).op),.int .i64 ((xs[k]'hi2).epoch),.int .i64 ((xs[k]'hi2).key),.int .i64 ((xs[k]'hi2).val)]]) X0 Z Z ⟨⟨Z,Z⟩,trivial⟩ Z Z (fun b6 w21 e13 s6 h6=>?_)))))))
       replace h6 : Blk w21 b6 [.int .i64 ((xs[k]'hi2).op),.int .i64 ((xs[k]'hi2).epoch),.int .i64 ((xs[k]'hi2).key),.int .i64 ((xs[k]'hi2).val)]:=h6
       have g_b6 : w.heap.size ≤ b6:=by have:=E.size;omega
       have y_b6:=h6.lt
       replace E:=E.trans e13;replace h1:=h1.ext e13;replace ho1:=ho1.ext e13;replace ho:=ho.ext e13
       have z17:=e13.size
       refine K2 X0 Z Z ho (Src.ofBlk h6 Z) Z (by first | (simp only [Ya,List.length_nil,List.length_cons];simp only [Enc.sz];omega) | (have h:=C3 xs (fun y=>!(Kx x y)) k;simp only [show Enc.sz Cell = 4 from Z] at h;simp only [List.length_cons,List.length_nil];omega)) (by decide) (by omega) (by omega) Z Z (fun v5 w22 m3 ho5=>?_)
       replace E:=E.step m3 (fun g hg=>by have:=Own.blk ho g hg;omega);replace h1:=h1.mod m3 (fun g hg=>by have:=Own.blk ho g hg;omega);replace ho1:=ho1.mod m3 (fun g hg=>by have:=Own.blk ho g hg;omega)
       have z18:=m3.size
       refine Qa (Qg Z) Z (Qf (Yb (Yv (Qi [true,true,true] Z Z (Qa (Qe Z) Z (Qa (Yw Z Z (Y7 hc9n hxs.1)) Z (Qa (Qg Z) Z (Qf (Yb (Yy (k + 1,v5) (by simp;omega) ⟨Z,Z,Z,Z,Z,Z,Z,trivial⟩ ⟨E,(by omega),h1,ho1,(by omega),Own.fin ho5 (Nat.le_refl _) (by omega) (filt_yes (by assumption) (ns_yes (by assumption)))⟩))))))))))
      ·refine Qy (Yb (Yv (Qi [true,true,true] Z Z (Qa (Qe Z) Z (Qa (Yw Z Z (Y7 hc9n hxs.1)) Z (Qa (Qg Z) Z (Qf (Yb (Yy (k + 1,vo) (by simp;omega) ⟨Z,Z,Z,Z,Z,Z,Z,trivial⟩ ⟨E,(by omega),h1,ho1,(by omega),Own.fin ho (Nat.le_refl _) (by omega) (filt_no (by assumption) (ns_no (by assumption)))⟩)))))))))
     ·have hc9n : ¬ k < xs.length:=by first | (have h:=of_decide_eq_false hc9;omega) | (have h:=hc9;simp at h;omega)
      refine Xl (Ys (Yj ?_))
      refine Qh (Qi [true,true,false,true,true] Z Z (Qa (Qe Z) Z (Qa (Qo Ku Z h1.at Z) Z (Qv Tryz.call87 Z (s_PutCell vo ((xs.take k).filter (fun y=>!(Kx x y))) x _ (Own.rd (by decide) ho) (by have h1:=List.length_filter_le (fun y=>!(Kx x y)) (xs.take k);simp only [List.length_take] at h1;omega)) Z (fun v6 w23 e14 ho6=>?_)))))
      have g_ho6 : w.heap.size ≤ w18.heap.size:=E.size
      replace E:=E.trans e14;replace h1:=h1.ext e14;replace ho1:=ho1.ext e14;replace ho:=ho.ext e14
      have z19:=e14.size
      refine Qa (Qg Z) Z (Qa (Qg Z) Z (Qf (Qx (Qz (Yo (l:=[.tmp 6,.tmp 7]) (vs:=[v6,.bool true]) Z ⟨.tmp Z,.tmp Z,trivial⟩ Z E ?_)))))
      rw [V4 (.inr (by assumption)),Vl (by assumption)]
      exact ⟨_,Z,Own.fin ho6 (by omega) (by omega) (by simp only [List.nil_append,List.take_of_length_le (show xs.length ≤ k by omega)] <;> rfl)⟩
   ·refine Qy (Yb (Yv (Qh (Qi [true,true,true] Z Z (Qa (Qe Z) Z (Qa (Qg Z) Z (Qa (Qg Z) Z (Qf (Qx (Yo (l:=[.tmp 6,.tmp 7]) (vs:=[v1,.bool true]) Z ⟨.tmp Z,.tmp Z,trivial⟩ Z E ?_))))))))))
    rw [Tt (by assumption) (by assumption) (by assumption)]
    exact ⟨_,Z,Own.fin ho1 (by omega) (by omega) (by first | rfl | simp only [List.nil_append])⟩

set_option maxRecDepth 20000 in
theorem s_l02Less (a : Int) (b : Int) (w : World)  : Ct Tryz.prog 85 [.int .i64 a,.int .i64 b] w (fun v _=>v = .int .i64 (if b < a then b else a)):=by
 refine Yx Tryz.func85 Z Tryz.ntmps85 Z ?_
 refine Yh [(0,.int .i64 a),(1,.int .i64 b)] ⟨Z,Z,trivial⟩ ?_
 have E : Ext w w:=Ext.refl w
 refine Qh (Qi [true] Z Z (Qa (Qg Z) Z (Qf (Qh (Qh (Qi [true,true,true] Z Z (Qa (Qe Z) Z (Qa (Qe Z) Z (Qa (Xn Z Z) Z (Qf (Qw Z (fun hc1=>?_) (fun hc1=>?_))))))))))))
 ·refine Qh (Qi [true,true] Z Z (Qa (Qe Z) Z (Qa (Qg Z) Z (Qf (Qx (Q0 Z Z E ?_))))))
  rw [if_pos (of_decide_eq_true hc1)]
 ·refine Qy (Qh (Qi [true,true] Z Z (Qa (Qe Z) Z (Qa (Qg Z) Z (Qf (Qx (Q0 Z Z E ?_)))))))
  rw [if_neg (of_decide_eq_false hc1)]

set_option maxRecDepth 20000 in
theorem c_Changed (cx : List Value) (x : Node) (a : Int) (b : Int) (w : World) (hx : Dat.R w 0 w.heap.size cx x) : Ct Tryz.prog 59 [.agg cx.toArray,.int .i64 a,.int .i64 b] w (fun v _=>v = .tuple [.int .i64 ((Qm x a b).1),.int .i64 ((Qm x a b).2.1),.bool ((Qm x a b).2.2)].toArray):=by
 refine Yx Tryz.func59 Z Tryz.ntmps59 Z ?_
 obtain ⟨o1,rfl,hd1⟩:=Node.op hx
 refine Yh [(0,.agg [.int .i64 x.kind,.int .i64 x.a,.int .i64 x.b,o1].toArray),(1,.int .i64 a),(2,.int .i64 b)] ⟨Z,Z,Z,trivial⟩ ?_
 have E : Ext w w:=Ext.refl w
 refine Qh (Qi [false,true,true,true] Z Z (Y5 Z Z (fun b1 w1 e1 s1 h1=>?_)))
 have g_b1 : w.heap.size ≤ b1:=by have:=E.size;omega
 have y_b1:=h1.lt
 replace E:=E.trans e1
 have z1:=e1.size
 refine Qa (Qg Z) Z (Qa (Qg Z) Z (Qa (Qg Z) Z (Qf (Qh (Qh (Qi [true,false,true,true,true,true,false,true,true] Z Z (Qa (Qo Kn Z h1.at Z) Z (Qv Tryz.call53 Z (c_NodeOk [.int .i64 x.kind,.int .i64 x.a,.int .i64 x.b,o1] x _ (Node.mkR x (RdD.any (hd1.ext E)))) Z (fun _ w2 e2 hv=>?_)))))))))
 subst hv
 replace E:=E.trans e2;replace h1:=h1.ext e2
 have z2:=e2.size
 refine Qa (Y1 Z) Z (Qa (Qe Z) Z (Xg 5 [(0,.agg [.int .i64 x.kind,.int .i64 x.a,.int .i64 x.b,o1].toArray),(1,.int .i64 a),(2,.int .i64 b),(3,.pointer (some ⟨b1,0,none⟩)),(6,.int .i64 0),(7,.int .i64 0),(8,.bool false),(17,.bool ((!(Y9 x)) || (!(Y0 a 0 99 && Y0 b 0 999))))] (fun w'=>Ext w w' ∧ w2.heap.size ≤ w'.heap.size ∧ Blk w' b1 ([.int .i64 x.kind,.int .i64 x.a,.int .i64 x.b,o1])) ?_ ?_))
 ·refine Ym (gd:=12) Z Z (fun hg1=>?_) (fun hg1=>?_)
  ·refine Qc Z Z Z Z (Qc Z Z Z Z ?_)
   refine Q1 Z Z Z Z ?_
   refine Qc Z Z Z Z (Qa (Qr Z Z) Z (Ql ⟨Z,Z,Z,Z,Z,Z,Z,congrArg (fun b=>some (Value.bool b)) (show true = ((!(Y9 x)) || (!(Y0 a 0 99 && Y0 b 0 999))) by first | (rw [hg1] <;> rfl) | (simp [hg1];done) | (simp only [Qp] <;> simp)),trivial⟩ ⟨E,(by omega),h1⟩))
  ·refine Qk Z Z (Qe Z) Z (Qk Z Z (Qe Z) Z ?_)
   refine Y3 Z Z ?_
   refine Qv Tryz.call80 Z (c_itemOk a b _ ) Z (fun _ w4 e3 hv=>?_)
   subst hv
   replace E:=E.trans e3;replace h1:=h1.ext e3
   have z3:=e3.size
   refine Qk Z Z (Y1 Z) Z (Qa (Qq Z Z) Z (Ql ⟨Z,Z,Z,Z,Z,Z,Z,congrArg (fun b=>some (Value.bool b)) (show (!(Y0 a 0 99 && Y0 b 0 999)) = ((!(Y9 x)) || (!(Y0 a 0 99 && Y0 b 0 999))) by first | (rw [hg1] <;> rfl) | (simp [hg1];done) | (simp only [Qp] <;> simp)),trivial⟩ ⟨E,(by omega),h1⟩))
 clear E h1
 rintro w3 ⟨E,z4,h1⟩
 refine Qf (Qw Z (fun hc1=>?_) (fun hc1=>?_))
 ·refine Qh (Qi [true,true,true,true,true] Z Z (Qa (Qe Z) Z (Qa (Qe Z) Z (Qa (Qg Z) Z (Qa (Qg Z) Z (Qa (Qg Z) Z (Qf (Qx (Yo (l:=[.tmp 6,.tmp 7,.tmp 8]) (vs:=[.int .i64 a,.int .i64 b,.bool false]) Z ⟨.tmp Z,.tmp Z,.tmp Z,trivial⟩ Z E ?_)))))))))
  rw [ch_0 (by assumption)]
 ·have hno:=ch_ok hc1
  refine Qy (Qh (Qh (Qi [true,true] Z Z (Qa (Qd X7 Z) Z (Qa (Qj Y6 Z (h1.one 0 Z)) Z (Qf (Q9 (Qh (Qi [true,true] Z Z (Qa (Yq Z Z) Z (Qa (Qg Z) Z (Qf (Qw Z (fun hc2=>?_) (fun hc2=>?_))))))))))))))
  ·refine Qh (Xu Xo [(0,true),(1,true),(2,true),(3,true),(4,true),(5,true),(6,true),(7,true),(8,true)] (by decide +kernel) Z (fun w5 e4=>?_))
   replace E:=E.trans e4;replace h1:=h1.ext e4
   have z5:=e4.size
   refine Qa (Qe Z) Z (Qa (Qe Z) Z (Qa (Qd Uf Z) Z (Qa (Qj Y6 Z (h1.one 1 Z)) Z (Qa (Yw Z Z Z) Z (Qa (R_min Z Z) Z (Qa (Qg Z) Z (Qa (Qg Z) Z (Qa (Qg Z) Z (Qf (Qx (Qz (Yo (l:=[.tmp 6,.tmp 7,.tmp 8]) (vs:=[.int .i64 a,.int .i64 (if (IntKind.i64.wrap (b + x.a)) < 999 then (IntKind.i64.wrap (b + x.a)) else 999),.bool true]) Z ⟨.tmp Z,.tmp Z,.tmp Z,trivial⟩ Z E ?_))))))))))))
   rw [ch_2 (by assumption) (by assumption)]
  ·refine Qh (Qi [true,true] Z Z (Qa (Yq Z Z) Z (Qa (Qg Z) Z (Qf (Qw Z (fun hc3=>?_) (fun hc3=>?_))))))
   ·refine Qh (Qi [true,true,true,true,true,true,true,true,true] Z Z (Qa (Qe Z) Z (Qa (Qd Uf Z) Z (Qa (Qj Y6 Z (h1.one 1 Z)) Z (Qa (Yw Z Z Z) Z (Qa (Ay Z Z (by decide) Z) Z (Qa (Qe Z) Z (Qa (Qg Z) Z (Qa (Qg Z) Z (Qa (Qg Z) Z (Qf (Qx (Qz (Yo (l:=[.tmp 6,.tmp 7,.tmp 8]) (vs:=[.int .i64 (Int.tmod (IntKind.i64.wrap (a + x.a)) 100),.int .i64 b,.bool true]) Z ⟨.tmp Z,.tmp Z,.tmp Z,trivial⟩ Z E ?_))))))))))))))
    rw [ch_4 (by assumption) (by assumption)]
   ·refine Qh (Qi [true,true] Z Z (Qa (Yq Z Z) Z (Qa (Qg Z) Z (Qf (Qw Z (fun hc4=>?_) (fun hc4=>?_))))))
    ·have hna:=node_a3 hno hc4
     refine Qh (Xu Xo [(0,true),(1,true),(2,true),(3,true),(4,true),(5,true),(6,true),(7,true),(8,true),(9,true),(10,true),(11,true)] (by decide +kernel) Z (fun w6 e5=>?_))
     replace E:=E.trans e5;replace h1:=h1.ext e5
     have z6:=e5.size
     refine Qa (Qe Z) Z (Qa (Qe Z) Z (Qa (Qe Z) Z (Qa (Qd Uf Z) Z (Qa (Qj Y6 Z (h1.one 1 Z)) Z (Qa (Ay Z Z (by omega) Z) Z (Qa (Qd Vu Z) Z (Qa (Qj Y6 Z (h1.one 2 Z)) Z (Qa (Yq Z Z) Z (Qa (Qg Z) Z (Qa (Qg Z) Z (Qa (Qg Z) Z (Qf (Qx (Qz (Yo (l:=[.tmp 6,.tmp 7,.tmp 8]) (vs:=[.int .i64 a,.int .i64 b,.bool ((Int.tmod a x.a) == x.b)]) Z ⟨.tmp Z,.tmp Z,.tmp Z,trivial⟩ Z E ?_)))))))))))))))
     rw [ch_3 (by assumption) (by assumption)]
    ·refine Qy (Yb (Yv (Qh (Xu Xo [(0,true),(1,true),(2,true),(3,true),(4,true),(5,true),(6,true),(7,true)] (by decide +kernel) Z (fun w7 e6=>?_)))))
     replace E:=E.trans e6;replace h1:=h1.ext e6
     have z7:=e6.size
     refine Qa (Qe Z) Z (Qa (Qe Z) Z (Qa (Qd X7 Z) Z (Qa (Qj Y6 Z (h1.one 0 Z)) Z (Qa (Xs Z Z) Z (Qa (Qg Z) Z (Qa (Qg Z) Z (Qa (Qg Z) Z (Qf (Qx (Yo (l:=[.tmp 6,.tmp 7,.tmp 8]) (vs:=[.int .i64 a,.int .i64 b,.bool (x.kind != 8)]) Z ⟨.tmp Z,.tmp Z,.tmp Z,trivial⟩ Z E ?_))))))))))
     rw [ch_o (by assumption) (by assumption) (by assumption) (by assumption)]

set_option maxRecDepth 20000 in
theorem s_Changed (cx : List Value) (x : Node) (a : Int) (b : Int) (w : World) (hx : Dat.R w 0 w.heap.size cx x) : Ct Tryz.prog 65 [.agg cx.toArray,.int .i64 a,.int .i64 b] w (fun v _=>v = .tuple [.int .i64 ((Qm x a b).1),.int .i64 ((Qm x a b).2.1),.bool ((Qm x a b).2.2)].toArray):=by
 refine Yx Tryz.func65 Z Tryz.ntmps65 Z ?_
 obtain ⟨o1,rfl,hd1⟩:=Node.op hx
 refine Yh [(0,.agg [.int .i64 x.kind,.int .i64 x.a,.int .i64 x.b,o1].toArray),(1,.int .i64 a),(2,.int .i64 b)] ⟨Z,Z,Z,trivial⟩ ?_
 have E : Ext w w:=Ext.refl w
 refine Qh (Qi [false,true,true,true] Z Z (Y5 Z Z (fun b1 w1 e1 s1 h1=>?_)))
 have g_b1 : w.heap.size ≤ b1:=by have:=E.size;omega
 have y_b1:=h1.lt
 replace E:=E.trans e1
 have z1:=e1.size
 refine Qa (Qg Z) Z (Qa (Qg Z) Z (Qa (Qg Z) Z (Qf (Qh (Qh (Qi [true,false,true,true,true,false,true,true,true,true,false,true,true] Z Z (Qa (Qo Kn Z h1.at Z) Z (Qv Tryz.call62 Z (s_NodeOk [.int .i64 x.kind,.int .i64 x.a,.int .i64 x.b,o1] x _ (Node.mkR x (RdD.any (hd1.ext E)))) Z (fun _ w2 e2 hv=>?_)))))))))
 subst hv
 replace E:=E.trans e2;replace h1:=h1.ext e2
 have z2:=e2.size
 refine Qa (Y1 Z) Z (Qa (Qe Z) Z (Xg 9 [(0,.agg [.int .i64 x.kind,.int .i64 x.a,.int .i64 x.b,o1].toArray),(1,.int .i64 a),(2,.int .i64 b),(3,.pointer (some ⟨b1,0,none⟩)),(6,.int .i64 0),(7,.int .i64 0),(8,.bool false),(21,.bool (((!(Y9 x)) || (!(Y0 a 0 99))) || (!(Y0 b 0 999))))] (fun w'=>Ext w w' ∧ w2.heap.size ≤ w'.heap.size ∧ Blk w' b1 ([.int .i64 x.kind,.int .i64 x.a,.int .i64 x.b,o1])) ?_ ?_))
 ·refine Ym (gd:=12) Z Z (fun hg1=>?_) (fun hg1=>?_)
  ·refine Qc Z Z Z Z ?_
   refine Q1 Z Z Z Z ?_
   refine Qc Z Z Z Z (Qa (Qr Z Z) Z (Qa (Qe Z) Z (Qc Z Z Z Z ?_)))
   refine Q1 Z Z Z Z ?_
   refine Qc Z Z Z Z (Qa (Qr Z Z) Z (Ql ⟨Z,Z,Z,Z,Z,Z,Z,congrArg (fun b=>some (Value.bool b)) (show true = (((!(Y9 x)) || (!(Y0 a 0 99))) || (!(Y0 b 0 999))) by first | (rw [hg1] <;> rfl) | (simp [hg1];done) | (simp only [Qp] <;> simp)),trivial⟩ ⟨E,(by omega),h1⟩))
  ·refine Qk Z Z (Qe Z) Z ?_
   refine Y3 Z Z ?_
   refine Qv Tryz.call45 Z (s_l01In a 0 99 _ ) Z (fun _ w4 e3 hv=>?_)
   subst hv
   replace E:=E.trans e3;replace h1:=h1.ext e3
   have z3:=e3.size
   refine Qk Z Z (Y1 Z) Z (Qa (Qq Z Z) Z (Qa (Qe Z) Z ?_))
   refine Ym (gd:=17) Z Z (fun hg2=>?_) (fun hg2=>?_)
   ·refine Qc Z Z Z Z ?_
    refine Q1 Z Z Z Z ?_
    refine Qc Z Z Z Z (Qa (Qr Z Z) Z (Ql ⟨Z,Z,Z,Z,Z,Z,Z,congrArg (fun b=>some (Value.bool b)) (show true = (((!(Y9 x)) || (!(Y0 a 0 99))) || (!(Y0 b 0 999))) by first | (rw [hg1,hg2] <;> rfl) | (simp [hg1,hg2];done) | (simp only [Qp] <;> simp)),trivial⟩ ⟨E,(by omega),h1⟩))
   ·refine Qk Z Z (Qe Z) Z ?_
    refine Y3 Z Z ?_
    refine Qv Tryz.call45 Z (s_l01In b 0 999 _ ) Z (fun _ w5 e4 hv=>?_)
    subst hv
    replace E:=E.trans e4;replace h1:=h1.ext e4
    have z4:=e4.size
    refine Qk Z Z (Y1 Z) Z (Qa (Qq Z Z) Z (Ql ⟨Z,Z,Z,Z,Z,Z,Z,congrArg (fun b=>some (Value.bool b)) (show (!(Y0 b 0 999)) = (((!(Y9 x)) || (!(Y0 a 0 99))) || (!(Y0 b 0 999))) by first | (rw [hg1,hg2] <;> rfl) | (simp [hg1,hg2];done) | (simp only [Qp] <;> simp)),trivial⟩ ⟨E,(by omega),h1⟩))
 clear E h1
 rintro w3 ⟨E,z5,h1⟩
 refine Qf (Qw Z (fun hc1=>?_) (fun hc1=>?_))
 ·replace hc1:=ch_st hc1
  refine Qh (Qi [true,true,true,true,true] Z Z (Qa (Qe Z) Z (Qa (Qe Z) Z (Qa (Qg Z) Z (Qa (Qg Z) Z (Qa (Qg Z) Z (Qf (Qx (Yo (l:=[.tmp 6,.tmp 7,.tmp 8]) (vs:=[.int .i64 a,.int .i64 b,.bool false]) Z ⟨.tmp Z,.tmp Z,.tmp Z,trivial⟩ Z E ?_)))))))))
  rw [ch_0 (by assumption)]
 ·replace hc1:=ch_s hc1
  have hno:=ch_ok hc1
  refine Qy (Qh (Qh (Qi [true,true] Z Z (Qa (Qd X7 Z) Z (Qa (Qj Y6 Z (h1.one 0 Z)) Z (Qf (Q9 (Qh (Qi [true,true] Z Z (Qa (Yq Z Z) Z (Qa (Qg Z) Z (Qf (Qw Z (fun hc2=>?_) (fun hc2=>?_))))))))))))))
  ·refine Qh (Qi [true,true,true,true,true,false,true,true,true] Z Z (Qa (Qe Z) Z (Qa (Qe Z) Z (Qa (Qd Uf Z) Z (Qa (Qj Y6 Z (h1.one 1 Z)) Z (Qa (Yw Z Z Z) Z (Qv Tryz.call85 Z (s_l02Less (IntKind.i64.wrap (b + x.a)) 999 _ ) Z (fun _ w6 e5 hv=>?_))))))))
   subst hv
   replace E:=E.trans e5;replace h1:=h1.ext e5
   have z6:=e5.size
   refine Qa (Qg Z) Z (Qa (Qg Z) Z (Qa (Qg Z) Z (Qf (Qx (Qz (Yo (l:=[.tmp 6,.tmp 7,.tmp 8]) (vs:=[.int .i64 a,.int .i64 (if 999 < (IntKind.i64.wrap (b + x.a)) then 999 else (IntKind.i64.wrap (b + x.a))),.bool true]) Z ⟨.tmp Z,.tmp Z,.tmp Z,trivial⟩ Z E ?_))))))
   rw [ch_2 (by assumption) (by assumption),min_999]
  ·refine Qh (Qi [true,true] Z Z (Qa (Yq Z Z) Z (Qa (Qg Z) Z (Qf (Qw Z (fun hc3=>?_) (fun hc3=>?_))))))
   ·refine Qh (Qi [true,true,true,true,true,true,true,true,true] Z Z (Qa (Qe Z) Z (Qa (Qd Uf Z) Z (Qa (Qj Y6 Z (h1.one 1 Z)) Z (Qa (Yw Z Z Z) Z (Qa (Ay Z Z (by decide) Z) Z (Qa (Qe Z) Z (Qa (Qg Z) Z (Qa (Qg Z) Z (Qa (Qg Z) Z (Qf (Qx (Qz (Yo (l:=[.tmp 6,.tmp 7,.tmp 8]) (vs:=[.int .i64 (Int.tmod (IntKind.i64.wrap (a + x.a)) 100),.int .i64 b,.bool true]) Z ⟨.tmp Z,.tmp Z,.tmp Z,trivial⟩ Z E ?_))))))))))))))
    rw [ch_4 (by assumption) (by assumption)]
   ·refine Qh (Qi [true,true] Z Z (Qa (Yq Z Z) Z (Qa (Qg Z) Z (Qf (Qw Z (fun hc4=>?_) (fun hc4=>?_))))))
    ·have hna:=node_a3 hno hc4
     refine Qh (Xu Xo [(0,true),(1,true),(2,true),(3,true),(4,true),(5,true),(6,true),(7,true),(8,true),(9,true),(10,true),(11,true)] (by decide +kernel) Z (fun w7 e6=>?_))
     replace E:=E.trans e6;replace h1:=h1.ext e6
     have z7:=e6.size
     refine Qa (Qe Z) Z (Qa (Qe Z) Z (Qa (Qe Z) Z (Qa (Qd Uf Z) Z (Qa (Qj Y6 Z (h1.one 1 Z)) Z (Qa (Ay Z Z (by omega) Z) Z (Qa (Qd Vu Z) Z (Qa (Qj Y6 Z (h1.one 2 Z)) Z (Qa (Yq Z Z) Z (Qa (Qg Z) Z (Qa (Qg Z) Z (Qa (Qg Z) Z (Qf (Qx (Qz (Yo (l:=[.tmp 6,.tmp 7,.tmp 8]) (vs:=[.int .i64 a,.int .i64 b,.bool ((Int.tmod a x.a) == x.b)]) Z ⟨.tmp Z,.tmp Z,.tmp Z,trivial⟩ Z E ?_)))))))))))))))
     rw [ch_3 (by assumption) (by assumption)]
    ·refine Qy (Yb (Yv (Qh (Xu Xo [(0,true),(1,true),(2,true),(3,true),(4,true),(5,true),(6,true),(7,true)] (by decide +kernel) Z (fun w8 e7=>?_)))))
     replace E:=E.trans e7;replace h1:=h1.ext e7
     have z8:=e7.size
     refine Qa (Qe Z) Z (Qa (Qe Z) Z (Qa (Qd X7 Z) Z (Qa (Qj Y6 Z (h1.one 0 Z)) Z (Qa (Xs Z Z) Z (Qa (Qg Z) Z (Qa (Qg Z) Z (Qa (Qg Z) Z (Qf (Qx (Yo (l:=[.tmp 6,.tmp 7,.tmp 8]) (vs:=[.int .i64 a,.int .i64 b,.bool (x.kind != 8)]) Z ⟨.tmp Z,.tmp Z,.tmp Z,trivial⟩ Z E ?_))))))))))
     rw [ch_o (by assumption) (by assumption) (by assumption) (by assumption)]

set_option maxRecDepth 20000 in
theorem c_Unstaged (cx : List Value) (x : Worker) (w : World) (hx : Dat.R w 0 w.heap.size cx x) (hb : Q4 x ≤ 1048576) : Ct Tryz.prog 17 [.agg cx.toArray] w (fun v w'=>∃ c0,v = .tuple [.agg c0.toArray,.agg (Enc.enc ((Xa x).2.1)).toArray,.bool ((Xa x).2.2)].toArray ∧ Own1.O w' w.heap.size w'.heap.size c0 ((Xa x).1)):=by
 refine Yx Tryz.func17 Z Tryz.ntmps17 Z ?_
 obtain ⟨o1,o2,o3,o4,o5,o6,o7,o8,rfl,hd1,hd2,hd3,hd4,hd5,hd6,hd7,hd8⟩:=Worker.op hx
 refine Yh [(0,.agg [o1,o2,o3,o4,o5,o6,o7,o8].toArray)] ⟨Z,trivial⟩ ?_
 have E : Ext w w:=Ext.refl w
 refine Qh (Qi [false,false,false,true] Z Z (Y5 Z Z (fun b1 w1 e1 s1 h1=>?_)))
 have g_b1 : w.heap.size ≤ b1:=by have:=E.size;omega
 have y_b1:=h1.lt
 replace E:=E.trans e1
 have z1:=e1.size
 refine Q6 Q7 Z (fun b2 w2 e2 s2 h2=>?_)
 have g_b2 : w.heap.size ≤ b2:=by have:=E.size;omega
 have y_b2:=h2.lt
 replace E:=E.trans e2;replace h1:=h1.ext e2
 have z2:=e2.size
 refine Q6 Xh Z (fun b3 w3 e3 s3 h3=>?_)
 have g_b3 : w.heap.size ≤ b3:=by have:=E.size;omega
 have y_b3:=h3.lt
 replace E:=E.trans e3;replace h1:=h1.ext e3;replace h2:=h2.ext e3
 have z3:=e3.size
 refine Qa (Qg Z) Z (Qf (Qh (Qi [true,false,false,false] Z Z (Qa (Qo Q7 Z h1.at Z) Z (Qv Tryz.call27 Z (c_copyWorker [o1,o2,o3,o4,o5,o6,o7,o8] x _ (Worker.mkR x (RdD.any (hd1.ext E)) (RdD.any (hd2.ext E)) (RdD.any (hd3.ext E)) (RdD.any (hd4.ext E)) (RdD.any (hd5.ext E)) (RdD.any (hd6.ext E)) (RdD.any (hd7.ext E)) (RdD.any (hd8.ext E))) (by first | omega | (simp only [Qt];omega) | (rw [Qt];done) | (simp only [Qt];done))) Z (fun _ w4 e4 ho1=>?_))))))
 obtain ⟨_,rfl,ho1⟩:=ho1
 have g_ho1 : w.heap.size ≤ w3.heap.size:=E.size
 replace E:=E.trans e4;replace h1:=h1.ext e4;replace h2:=h2.ext e4;replace h3:=h3.ext e4
 have z4:=e4.size
 obtain ⟨o9,o10,o11,o12,o13,o14,o15,o16,rfl,sp1,hw1,hw2,hw3,hw4,hw5,hw6,hw7,hw8⟩:=Worker.opO ho1
 refine Q6 Q7 Z (fun b4 w5 e5 s4 h4=>?_)
 have g_b4 : w.heap.size ≤ b4:=by have:=E.size;omega
 have y_b4:=h4.lt
 replace E:=E.trans e5;replace h1:=h1.ext e5;replace h2:=h2.ext e5;replace h3:=h3.ext e5;replace hw1:=hw1.ext e5;replace hw2:=hw2.ext e5;replace hw3:=hw3.ext e5;replace hw4:=hw4.ext e5;replace hw5:=hw5.ext e5;replace hw6:=hw6.ext e5;replace hw7:=hw7.ext e5;replace hw8:=hw8.ext e5
 have z5:=e5.size
 refine Qs (cs':=[o9,o10,o11,o12,o13,o14,o15,o16]) Q7 Z Z Z (Qb hw1.one (Qb hw2.one (Qb hw3.one (Qb hw4.one (Qb hw5.one (Qb hw6.one (Qb hw7.one (Qb hw8.one Z)))))))) h4 (Nat.le_of_ble_eq_true Z) Z (fun w6 m1 h4'=>?_)
 replace h4:=h4'
 replace E:=E.step m1 (fun g hg=>by cases hg;omega);replace h1:=h1.mod m1 (fun g hg=>by cases hg;omega);replace h2:=h2.mod m1 (fun g hg=>by cases hg;omega);replace h3:=h3.mod m1 (fun g hg=>by cases hg;omega);replace hw1:=hw1.mod m1 (fun g hg=>by cases hg;omega);replace hw2:=hw2.mod m1 (fun g hg=>by cases hg;omega);replace hw3:=hw3.mod m1 (fun g hg=>by cases hg;omega);replace hw4:=hw4.mod m1 (fun g hg=>by cases hg;omega);replace hw5:=hw5.mod m1 (fun g hg=>by cases hg;omega);replace hw6:=hw6.mod m1 (fun g hg=>by cases hg;omega);replace hw7:=hw7.mod m1 (fun g hg=>by cases hg;omega);replace hw8:=hw8.mod m1 (fun g hg=>by cases hg;omega)
 have z6:=m1.size
 refine Qf (Qh (Qh (Qi [true,true,true,true] Z Z (Qa (Qd K7 Z) Z (Qa (Qj Xi Z (h1.one 1 Z)) Z (Qa (Yg Tryz.underlying27 Z (hd2.ext E).len) Z (Qa (Yq Z Z) Z (Qf (Qw Z (fun hc1=>?_) (fun hc1=>?_))))))))))
 ·have hc1n : x.staged.length = 0:=by first | (have h:=of_decide_eq_true hc1;omega) | (have h:=hc1;simp at h;omega)
  refine Qh (Qi [true,true,false,false,true] Z Z (Qa (Qo Q7 Z h4.at Z) Z (Qa (Kl (⟨0,(⟨0,0⟩ : Stamp),0,0⟩ : Record) Z (fun _=>by kernel_rfl)) Z (Qs (cs':=[o9,o10,o11,o12,o13,o14,o15,o16]) Q7 Z Z Z (Qb hw1.one (Qb hw2.one (Qb hw3.one (Qb hw4.one (Qb hw5.one (Qb hw6.one (Qb hw7.one (Qb hw8.one Z)))))))) h2 (Nat.le_of_ble_eq_true Z) Z (fun w7 m2 h2'=>?_)))))
  replace h2:=h2'
  replace E:=E.step m2 (fun g hg=>by cases hg;omega);replace h1:=h1.mod m2 (fun g hg=>by cases hg;omega);replace h3:=h3.mod m2 (fun g hg=>by cases hg;omega);replace hw1:=hw1.mod m2 (fun g hg=>by cases hg;omega);replace hw2:=hw2.mod m2 (fun g hg=>by cases hg;omega);replace hw3:=hw3.mod m2 (fun g hg=>by cases hg;omega);replace hw4:=hw4.mod m2 (fun g hg=>by cases hg;omega);replace hw5:=hw5.mod m2 (fun g hg=>by cases hg;omega);replace hw6:=hw6.mod m2 (fun g hg=>by cases hg;omega);replace hw7:=hw7.mod m2 (fun g hg=>by cases hg;omega);replace hw8:=hw8.mod m2 (fun g hg=>by cases hg;omega);replace h4:=h4.mod m2 (fun g hg=>by cases hg;omega)
  have z7:=m2.size
  refine Qs (cs':=[.int .i64 ((⟨0,(⟨0,0⟩ : Stamp),0,0⟩ : Record).op),.int .i64 (((⟨0,(⟨0,0⟩ : Stamp),0,0⟩ : Record).stamp).epoch),.int .i64 (((⟨0,(⟨0,0⟩ : Stamp),0,0⟩ : Record).stamp).turn),.int .i64 ((⟨0,(⟨0,0⟩ : Stamp),0,0⟩ : Record).key),.int .i64 ((⟨0,(⟨0,0⟩ : Stamp),0,0⟩ : Record).val)]) Xh Z Z Z Z h3 (Nat.le_of_ble_eq_true Z) Z (fun w8 m3 h3'=>?_)
  replace h3:=h3'
  replace E:=E.step m3 (fun g hg=>by cases hg;omega);replace h1:=h1.mod m3 (fun g hg=>by cases hg;omega);replace h2:=h2.mod m3 (fun g hg=>by cases hg;omega);replace hw1:=hw1.mod m3 (fun g hg=>by cases hg;omega);replace hw2:=hw2.mod m3 (fun g hg=>by cases hg;omega);replace hw3:=hw3.mod m3 (fun g hg=>by cases hg;omega);replace hw4:=hw4.mod m3 (fun g hg=>by cases hg;omega);replace hw5:=hw5.mod m3 (fun g hg=>by cases hg;omega);replace hw6:=hw6.mod m3 (fun g hg=>by cases hg;omega);replace hw7:=hw7.mod m3 (fun g hg=>by cases hg;omega);replace hw8:=hw8.mod m3 (fun g hg=>by cases hg;omega);replace h4:=h4.mod m3 (fun g hg=>by cases hg;omega)
  have z8:=m3.size
  refine Qa (Qg Z) Z (Qf (Qx (Yo (l:=[.cell 2 33,.cell 3 42,.tmp 4]) (vs:=[.agg [o9,o10,o11,o12,o13,o14,o15,o16].toArray,.agg (Enc.enc (⟨0,(⟨0,0⟩ : Stamp),0,0⟩ : Record)).toArray,.bool false]) Z ⟨.cell Z (Qu Q7 h2.at Z),.cell Z (Qu Xh h3.at Z),.tmp Z,trivial⟩ Z E ?_)))
  rw [unst_no hc1]
  exact ⟨_,Z,(Worker.mkO x sp1 (Own.widen hw1 (by omega) (by omega)) (Own.widen hw2 (by omega) (by omega)) (Own.widen hw3 (by omega) (by omega)) (Own.widen hw4 (by omega) (by omega)) (Own.widen hw5 (by omega) (by omega)) (Own.widen hw6 (by omega) (by omega)) (Own.widen hw7 (by omega) (by omega)) (Own.widen hw8 (by omega) (by omega)))⟩
 ·have hsl:=unst_lt hc1
  have hc1n : ¬ x.staged.length = 0:=by first | (have h:=of_decide_eq_false hc1;omega) | (have h:=hc1;simp at h;omega)
  refine Qy (Qh (Qi [true,true,true,true,false] Z Z (Qa (Qd K7 Z) Z (Qa (Qj Xi Z (h4.one 1 Z)) Z ?_))))
  have hk1 : 1 ≤ x.staged.length:=by first | assumption | omega
  have hs1:=Own.slFromE (α:=Record) hw2 hk1
  replace hs1 : Own w6 w3.heap.size w4.heap.size 5 (slFrom o10 1 5) (List.flatMap (Enc.enc (α:=Record)) (List.drop 1 x.staged)):=hs1
  have hb1 : Become w6 o10 (slFrom o10 1 5):=fun g hg=>.inl (by rwa [Vj] at hg)
  replace sp1:=SepL.set hb1 1 rfl sp1 ⟨(Own.lt hw1),(Own.lt hw2),(Own.lt hw3),(Own.lt hw4),(Own.lt hw5),(Own.lt hw6),(Own.lt hw7),(Own.lt hw8),trivial⟩
  replace sp1 : SepL [o9,slFrom o10 1 5,o11,o12,o13,o14,o15,o16]:=sp1
  refine Qa (Kt X3 Z Z (Own.roomE (α:=Record) hw2) hk1) Z (Qa (Qd K7 Z) Z (Y4 (cs':=[o9,slFrom o10 1 5,o11,o12,o13,o14,o15,o16]) Xi Z Z hs1.one h4 (Nat.le_of_ble_eq_true Z) Z (fun w9 m4 h4'=>?_)))
  replace h4:=h4'
  replace E:=E.step m4 (fun g hg=>by cases hg;omega);replace h1:=h1.mod m4 (fun g hg=>by cases hg;omega);replace h2:=h2.mod m4 (fun g hg=>by cases hg;omega);replace h3:=h3.mod m4 (fun g hg=>by cases hg;omega);replace hw1:=hw1.mod m4 (fun g hg=>by cases hg;omega);replace hw3:=hw3.mod m4 (fun g hg=>by cases hg;omega);replace hw4:=hw4.mod m4 (fun g hg=>by cases hg;omega);replace hw5:=hw5.mod m4 (fun g hg=>by cases hg;omega);replace hw6:=hw6.mod m4 (fun g hg=>by cases hg;omega);replace hw7:=hw7.mod m4 (fun g hg=>by cases hg;omega);replace hw8:=hw8.mod m4 (fun g hg=>by cases hg;omega);replace hs1:=hs1.mod m4 (fun g hg=>by cases hg;omega)
  have z9:=m4.size
  refine Qf (Qh (S_regS Xo 5 [2,18] [(0,true)] [(1,true),(2,true),(3,true),(4,true)] [(6,false),(7,true)] (by decide +kernel) Z Z Z Z Z Z Z [(0,.agg [o1,o2,o3,o4,o5,o6,o7,o8].toArray),(1,.pointer (some ⟨b1,0,none⟩)),(2,.pointer (some ⟨b2,0,none⟩)),(3,.pointer (some ⟨b3,0,none⟩)),(4,.bool false),(5,.pointer (some ⟨b4,0,none⟩)),(6,.agg [o1,o2,o3,o4,o5,o6,o7,o8].toArray),(7,.agg [o9,o10,o11,o12,o13,o14,o15,o16].toArray),(8,.pointer (some ⟨b1,1,none⟩)),(9,o2),(10,.int .i64 ((x.staged.length : Nat) : Int)),(11,.bool (((x.staged.length : Nat) : Int) == 0)),(14,.pointer (some ⟨b4,1,none⟩)),(15,o10),(16,slFrom o10 1 5),(17,.pointer (some ⟨b4,1,none⟩)),(18,.agg [o9,slFrom o10 1 5,o11,o12,o13,o14,o15,o16].toArray)] [(2,.pointer (some ⟨b2,0,none⟩)),(18,.agg [o9,slFrom o10 1 5,o11,o12,o13,o14,o15,o16].toArray)] Z ⟨Z,Z,trivial⟩ (fun w'=>Ext w w' ∧ w9.heap.size ≤ w'.heap.size ∧ Blk w' b1 ([o1,o2,o3,o4,o5,o6,o7,o8]) ∧ Blk w' b2 [.slice none 0 0,.slice none 0 0,.slice none 0 0,.slice none 0 0,.slice none 0 0,.slice none 0 0,.slice none 0 0,.slice none 0 0] ∧ Blk w' b3 [.int .i64 0,.int .i64 0,.int .i64 0,.int .i64 0,.int .i64 0] ∧ Own w' w3.heap.size w4.heap.size 5 o9 (List.flatMap (Enc.enc (α:=Record)) x.queue) ∧ Own w' w3.heap.size w4.heap.size 5 o11 (List.flatMap (Enc.enc (α:=Record)) x.inputs) ∧ Own w' w3.heap.size w4.heap.size 4 o12 (List.flatMap (Enc.enc (α:=Cell)) x.cells) ∧ Own w' w3.heap.size w4.heap.size 1 o13 (List.flatMap (Enc.enc (α:=Int)) x.sums) ∧ Own w' w3.heap.size w4.heap.size 1 o14 (List.flatMap (Enc.enc (α:=Bool)) x.black) ∧ Own w' w3.heap.size w4.heap.size 1 o15 (List.flatMap (Enc.enc (α:=Bool)) x.caps) ∧ Own w' w3.heap.size w4.heap.size 2 o16 (List.flatMap (Enc.enc (α:=Done)) x.dones) ∧ Blk w' b4 [o9,slFrom o10 1 5,o11,o12,o13,o14,o15,o16] ∧ Own w' w3.heap.size w4.heap.size 5 (slFrom o10 1 5) (List.flatMap (Enc.enc (α:=Record)) (List.drop 1 x.staged))) b2 (fun w'=>Blk w' b2 [o9,slFrom o10 1 5,o11,o12,o13,o14,o15,o16]) (fun w10 e6=>?_) (fun w10 hphi_w10=>?_)))
  ·replace E:=E.trans e6;replace h1:=h1.ext e6;replace h2:=h2.ext e6;replace h3:=h3.ext e6;replace hw1:=hw1.ext e6;replace hw3:=hw3.ext e6;replace hw4:=hw4.ext e6;replace hw5:=hw5.ext e6;replace hw6:=hw6.ext e6;replace hw7:=hw7.ext e6;replace hw8:=hw8.ext e6;replace h4:=h4.ext e6;replace hs1:=hs1.ext e6
   have z10:=e6.size
   refine Qa (Qo Q7 Z h4.at Z) Z (Ql ⟨Z,Z,Z,Z,Z,Z,Z,Z,Z,Z,Z,Z,Z,Z,Z,Z,Z,trivial⟩ ⟨E,(by omega),h1,h2,h3,hw1,hw3,hw4,hw5,hw6,hw7,hw8,h4,hs1⟩)
  clear E h1 h2 h3 hw1 hw3 hw4 hw5 hw6 hw7 hw8 h4 hs1
  obtain ⟨E,z11,h1,h2,h3,hw1,hw3,hw4,hw5,hw6,hw7,hw8,h4,hs1⟩:=hphi_w10
  refine ⟨fs_store (cs':=[o9,slFrom o10 1 5,o11,o12,o13,o14,o15,o16]) Q7 Z Z Z (Qb hw1.one (Qb hs1.one (Qb hw3.one (Qb hw4.one (Qb hw5.one (Qb hw6.one (Qb hw7.one (Qb hw8.one Z)))))))) h2 (Nat.le_of_ble_eq_true Z) Z,?_⟩
  refine JS_st (v:=.pointer (some ⟨b1,1,none⟩)) (fun wX mX=>?_) Z ?_
  ·have E:=E.step mX (fun g hg=>by cases hg;omega);exact Qd K7 rfl
  refine JS_st (v:=o2) (fun wX mX=>?_) Z ?_
  ·have E:=E.step mX (fun g hg=>by cases hg;omega);replace h1:=h1.mod mX (fun g hg=>by cases hg;omega);exact Qj Xi rfl (h1.one 1 rfl)
  have hi1 : 0 < x.staged.length:=(by first | assumption | omega | (simp only [List.length_set];first | assumption | omega) | (simp only [List.getElem_set_self,List.length_set];first | assumption | omega) | (simp only [Xc,Yp,List.length_set];first | assumption | omega) | (simp;done))
  refine JS_st (v:=.pointer (some ⟨X8 o2,Ko o2 + 0 * 5,none⟩)) (fun wX mX=>?_) Z ?_
  ·have E:=E.step mX (fun g hg=>by cases hg;omega);exact Ye (i:=0) X3 rfl rfl (hd2.rd.ext E) hi1
  refine JS_st (v:=.agg (Enc.enc (x.staged[0]'hi1)).toArray) (fun wX mX=>?_) Z ?_
  ·have E:=E.step mX (fun g hg=>by cases hg;omega);exact Qo Xh rfl ((hd2.rd.ext E).get hi1) rfl
  refine JS_end (fun w11 m5 hR=>?_)
  replace h2:=hR
  clear hR
  replace E:=E.step m5 (fun g hg=>by cases hg;omega);replace h1:=h1.mod m5 (fun g hg=>by cases hg;omega);replace h3:=h3.mod m5 (fun g hg=>by cases hg;omega);replace hw1:=hw1.mod m5 (fun g hg=>by cases hg;omega);replace hw3:=hw3.mod m5 (fun g hg=>by cases hg;omega);replace hw4:=hw4.mod m5 (fun g hg=>by cases hg;omega);replace hw5:=hw5.mod m5 (fun g hg=>by cases hg;omega);replace hw6:=hw6.mod m5 (fun g hg=>by cases hg;omega);replace hw7:=hw7.mod m5 (fun g hg=>by cases hg;omega);replace hw8:=hw8.mod m5 (fun g hg=>by cases hg;omega);replace h4:=h4.mod m5 (fun g hg=>by cases hg;omega);replace hs1:=hs1.mod m5 (fun g hg=>by cases hg;omega)
  have z12:=m5.size
  refine Qs (cs':=[.int .i64 ((x.staged[0]'hi1).op),.int .i64 (((x.staged[0]'hi1).stamp).epoch),.int .i64 (((x.staged[0]'hi1).stamp).turn),.int .i64 ((x.staged[0]'hi1).key),.int .i64 ((x.staged[0]'hi1).val)]) Xh Z Z Z Z h3 (Nat.le_of_ble_eq_true Z) Z (fun w12 m6 h3'=>?_)
  replace h3:=h3'
  replace E:=E.step m6 (fun g hg=>by cases hg;omega);replace h1:=h1.mod m6 (fun g hg=>by cases hg;omega);replace h2:=h2.mod m6 (fun g hg=>by cases hg;omega);replace hw1:=hw1.mod m6 (fun g hg=>by cases hg;omega);replace hw3:=hw3.mod m6 (fun g hg=>by cases hg;omega);replace hw4:=hw4.mod m6 (fun g hg=>by cases hg;omega);replace hw5:=hw5.mod m6 (fun g hg=>by cases hg;omega);replace hw6:=hw6.mod m6 (fun g hg=>by cases hg;omega);replace hw7:=hw7.mod m6 (fun g hg=>by cases hg;omega);replace hw8:=hw8.mod m6 (fun g hg=>by cases hg;omega);replace h4:=h4.mod m6 (fun g hg=>by cases hg;omega);replace hs1:=hs1.mod m6 (fun g hg=>by cases hg;omega)
  have z13:=m6.size
  refine Qa (Qg Z) Z (Qf (Qx (Yo (l:=[.cell 2 33,.cell 3 42,.tmp 4]) (vs:=[.agg [o9,slFrom o10 1 5,o11,o12,o13,o14,o15,o16].toArray,.agg (Enc.enc (x.staged[0]'hi1)).toArray,.bool true]) Z ⟨.cell Z (Qu Q7 h2.at Z),.cell Z (Qu Xh h3.at Z),.tmp Z,trivial⟩ Z E ?_)))
  rw [unst_yes hsl]
  exact ⟨_,Z,(Worker.mkO (⟨x.queue,List.drop 1 x.staged,x.inputs,x.cells,x.sums,x.black,x.caps,x.dones⟩ : Worker) sp1 (Own.widen hw1 (by omega) (by omega)) (Own.widen hs1 (by omega) (by omega)) (Own.widen hw3 (by omega) (by omega)) (Own.widen hw4 (by omega) (by omega)) (Own.widen hw5 (by omega) (by omega)) (Own.widen hw6 (by omega) (by omega)) (Own.widen hw7 (by omega) (by omega)) (Own.widen hw8 (by omega) (by omega)))⟩

set_option maxHeartbeats 4000000 in
set_option maxRecDepth 20000 in
theorem s_Unstaged (cx : List Value) (x : Worker) (w : World) (hx : Dat.R w 0 w.heap.size cx x) (hb : Q4 x ≤ 1048576) : Ct Tryz.prog 18 [.agg cx.toArray] w (fun v w'=>∃ c0,v = .tuple [.agg c0.toArray,.agg (Enc.enc ((Xa x).2.1)).toArray,.bool ((Xa x).2.2)].toArray ∧ Own1.O w' w.heap.size w'.heap.size c0 ((Xa x).1)):=by
 refine Yx Tryz.func18 Z Tryz.ntmps18 Z ?_
 obtain ⟨o1,o2,o3,o4,o5,o6,o7,o8,rfl,hd1,hd2,hd3,hd4,hd5,hd6,hd7,hd8⟩:=Worker.op hx
 refine Yh [(0,.agg [o1,o2,o3,o4,o5,o6,o7,o8].toArray)] ⟨Z,trivial⟩ ?_
 have E : Ext w w:=Ext.refl w
 refine Qh (Qi [false,false,false,true] Z Z (Y5 Z Z (fun b1 w1 e1 s1 h1=>?_)))
 have g_b1 : w.heap.size ≤ b1:=by have:=E.size;omega
 have y_b1:=h1.lt
 replace E:=E.trans e1
 have z1:=e1.size
 refine Q6 Q7 Z (fun b2 w2 e2 s2 h2=>?_)
 have g_b2 : w.heap.size ≤ b2:=by have:=E.size;omega
 have y_b2:=h2.lt
 replace E:=E.trans e2;replace h1:=h1.ext e2
 have z2:=e2.size
 refine Q6 Xh Z (fun b3 w3 e3 s3 h3=>?_)
 have g_b3 : w.heap.size ≤ b3:=by have:=E.size;omega
 have y_b3:=h3.lt
 replace E:=E.trans e3;replace h1:=h1.ext e3;replace h2:=h2.ext e3
 have z3:=e3.size
 refine Qa (Qg Z) Z (Qf (Qh (Qi [true,false,false] Z Z (Qa (Qo Q7 Z h1.at Z) Z (Qv Tryz.call32 Z (s_l12Copy [o1,o2,o3,o4,o5,o6,o7,o8] x _ (Worker.mkR x (RdD.any (hd1.ext E)) (RdD.any (hd2.ext E)) (RdD.any (hd3.ext E)) (RdD.any (hd4.ext E)) (RdD.any (hd5.ext E)) (RdD.any (hd6.ext E)) (RdD.any (hd7.ext E)) (RdD.any (hd8.ext E))) (by first | omega | (simp only [Qt];omega) | (rw [Qt];done) | (simp only [Qt];done))) Z (fun _ w4 e4 ho1=>?_))))))
 obtain ⟨_,rfl,ho1⟩:=ho1
 have g_ho1 : w.heap.size ≤ w3.heap.size:=E.size
 replace E:=E.trans e4;replace h1:=h1.ext e4;replace h2:=h2.ext e4;replace h3:=h3.ext e4
 have z4:=e4.size
 obtain ⟨o9,o10,o11,o12,o13,o14,o15,o16,rfl,sp1,hw1,hw2,hw3,hw4,hw5,hw6,hw7,hw8⟩:=Worker.opO ho1
 refine Qs (cs':=[o9,o10,o11,o12,o13,o14,o15,o16]) Q7 Z Z Z (Qb hw1.one (Qb hw2.one (Qb hw3.one (Qb hw4.one (Qb hw5.one (Qb hw6.one (Qb hw7.one (Qb hw8.one Z)))))))) h1 (Nat.le_of_ble_eq_true Z) Z (fun w5 m1 h1'=>?_)
 replace h1:=h1'
 replace E:=E.step m1 (fun g hg=>by cases hg;omega);replace h2:=h2.mod m1 (fun g hg=>by cases hg;omega);replace h3:=h3.mod m1 (fun g hg=>by cases hg;omega);replace hw1:=hw1.mod m1 (fun g hg=>by cases hg;omega);replace hw2:=hw2.mod m1 (fun g hg=>by cases hg;omega);replace hw3:=hw3.mod m1 (fun g hg=>by cases hg;omega);replace hw4:=hw4.mod m1 (fun g hg=>by cases hg;omega);replace hw5:=hw5.mod m1 (fun g hg=>by cases hg;omega);replace hw6:=hw6.mod m1 (fun g hg=>by cases hg;omega);replace hw7:=hw7.mod m1 (fun g hg=>by cases hg;omega);replace hw8:=hw8.mod m1 (fun g hg=>by cases hg;omega)
 have z5:=m1.size
 refine Qf (Qh (Qh (Qi [true,true,true,true] Z Z (Qa (Qd K7 Z) Z (Qa (Qj Xi Z (h1.one 1 Z)) Z (Qa (Yg Tryz.underlying27 Z (Own.len (by decide) hw2)) Z (Qa (Yq Z Z) Z (Qf (Qw Z (fun hc1=>?_) (fun hc1=>?_))))))))))
 ·have hc1n : x.staged.length = 0:=by first | (have h:=of_decide_eq_true hc1;omega) | (have h:=hc1;simp at h;omega)
  refine Qh (Qi [true,true,false,false,true] Z Z (Qa (Qo Q7 Z h1.at Z) Z (Qa (Kl (⟨0,(⟨0,0⟩ : Stamp),0,0⟩ : Record) Z (fun _=>by kernel_rfl)) Z (Qs (cs':=[o9,o10,o11,o12,o13,o14,o15,o16]) Q7 Z Z Z (Qb hw1.one (Qb hw2.one (Qb hw3.one (Qb hw4.one (Qb hw5.one (Qb hw6.one (Qb hw7.one (Qb hw8.one Z)))))))) h2 (Nat.le_of_ble_eq_true Z) Z (fun w6 m2 h2'=>?_)))))
  replace h2:=h2'
  replace E:=E.step m2 (fun g hg=>by cases hg;omega);replace h1:=h1.mod m2 (fun g hg=>by cases hg;omega);replace h3:=h3.mod m2 (fun g hg=>by cases hg;omega);replace hw1:=hw1.mod m2 (fun g hg=>by cases hg;omega);replace hw2:=hw2.mod m2 (fun g hg=>by cases hg;omega);replace hw3:=hw3.mod m2 (fun g hg=>by cases hg;omega);replace hw4:=hw4.mod m2 (fun g hg=>by cases hg;omega);replace hw5:=hw5.mod m2 (fun g hg=>by cases hg;omega);replace hw6:=hw6.mod m2 (fun g hg=>by cases hg;omega);replace hw7:=hw7.mod m2 (fun g hg=>by cases hg;omega);replace hw8:=hw8.mod m2 (fun g hg=>by cases hg;omega)
  have z6:=m2.size
  refine Qs (cs':=[.int .i64 ((⟨0,(⟨0,0⟩ : Stamp),0,0⟩ : Record).op),.int .i64 (((⟨0,(⟨0,0⟩ : Stamp),0,0⟩ : Record).stamp).epoch),.int .i64 (((⟨0,(⟨0,0⟩ : Stamp),0,0⟩ : Record).stamp).turn),.int .i64 ((⟨0,(⟨0,0⟩ : Stamp),0,0⟩ : Record).key),.int .i64 ((⟨0,(⟨0,0⟩ : Stamp),0,0⟩ : Record).val)]) Xh Z Z Z Z h3 (Nat.le_of_ble_eq_true Z) Z (fun w7 m3 h3'=>?_)
  replace h3:=h3'
  replace E:=E.step m3 (fun g hg=>by cases hg;omega);replace h1:=h1.mod m3 (fun g hg=>by cases hg;omega);replace h2:=h2.mod m3 (fun g hg=>by cases hg;omega);replace hw1:=hw1.mod m3 (fun g hg=>by cases hg;omega);replace hw2:=hw2.mod m3 (fun g hg=>by cases hg;omega);replace hw3:=hw3.mod m3 (fun g hg=>by cases hg;omega);replace hw4:=hw4.mod m3 (fun g hg=>by cases hg;omega);replace hw5:=hw5.mod m3 (fun g hg=>by cases hg;omega);replace hw6:=hw6.mod m3 (fun g hg=>by cases hg;omega);replace hw7:=hw7.mod m3 (fun g hg=>by cases hg;omega);replace hw8:=hw8.mod m3 (fun g hg=>by cases hg;omega)
  have z7:=m3.size
  refine Qa (Qg Z) Z (Qf (Qx (Yo (l:=[.cell 2 33,.cell 3 42,.tmp 4]) (vs:=[.agg [o9,o10,o11,o12,o13,o14,o15,o16].toArray,.agg (Enc.enc (⟨0,(⟨0,0⟩ : Stamp),0,0⟩ : Record)).toArray,.bool false]) Z ⟨.cell Z (Qu Q7 h2.at Z),.cell Z (Qu Xh h3.at Z),.tmp Z,trivial⟩ Z E ?_)))
  rw [unst_no hc1]
  exact ⟨_,Z,(Worker.mkO x sp1 (Own.widen hw1 (by omega) (by omega)) (Own.widen hw2 (by omega) (by omega)) (Own.widen hw3 (by omega) (by omega)) (Own.widen hw4 (by omega) (by omega)) (Own.widen hw5 (by omega) (by omega)) (Own.widen hw6 (by omega) (by omega)) (Own.widen hw7 (by omega) (by omega)) (Own.widen hw8 (by omega) (by omega)))⟩
 ·have hsl:=unst_lt hc1
  have hc1n : ¬ x.staged.length = 0:=by first | (have h:=of_decide_eq_false hc1;omega) | (have h:=hc1;simp at h;omega)
  refine Qy (Qh (Qi [true,true,true,true,false,false] Z Z (Qa (Qd K7 Z) Z (Qa (Qj Xi Z (h1.one 1 Z)) Z ?_))))
  have hi1 : 0 < x.staged.length:=(by first | assumption | omega | (simp only [List.length_set];first | assumption | omega) | (simp only [List.getElem_set_self,List.length_set];first | assumption | omega) | (simp only [Xc,Yp,List.length_set];first | assumption | omega) | (simp;done))
  refine Qa (Ye (i:=0) X3 Z Z (Own.rd (by decide) hw2) hi1) Z (Qa (Qo Xh Z ((Own.rd (by decide) hw2).get hi1) Z) Z (Q6 Xh Z (fun b4 w8 e5 s4 h4=>?_)))
  have g_b4 : w.heap.size ≤ b4:=by have:=E.size;omega
  have y_b4:=h4.lt
  replace E:=E.trans e5;replace h1:=h1.ext e5;replace h2:=h2.ext e5;replace h3:=h3.ext e5;replace hw1:=hw1.ext e5;replace hw2:=hw2.ext e5;replace hw3:=hw3.ext e5;replace hw4:=hw4.ext e5;replace hw5:=hw5.ext e5;replace hw6:=hw6.ext e5;replace hw7:=hw7.ext e5;replace hw8:=hw8.ext e5
  have z8:=e5.size
  refine Qs (cs':=[.int .i64 ((x.staged[0]'hi1).op),.int .i64 (((x.staged[0]'hi1).stamp).epoch),.int .i64 (((x.staged[0]'hi1).stamp).turn),.int .i64 ((x.staged[0]'hi1).key),.int .i64 ((x.staged[0]'hi1).val)]) Xh Z Z Z Z h4 (Nat.le_of_ble_eq_true Z) Z (fun w9 m4 h4'=>?_)
  replace h4:=h4'
  replace E:=E.step m4 (fun g hg=>by cases hg;omega);replace h1:=h1.mod m4 (fun g hg=>by cases hg;omega);replace h2:=h2.mod m4 (fun g hg=>by cases hg;omega);replace h3:=h3.mod m4 (fun g hg=>by cases hg;omega);replace hw1:=hw1.mod m4 (fun g hg=>by cases hg;omega);replace hw2:=hw2.mod m4 (fun g hg=>by cases hg;omega);replace hw3:=hw3.mod m4 (fun g hg=>by cases hg;omega);replace hw4:=hw4.mod m4 (fun g hg=>by cases hg;omega);replace hw5:=hw5.mod m4 (fun g hg=>by cases hg;omega);replace hw6:=hw6.mod m4 (fun g hg=>by cases hg;omega);replace hw7:=hw7.mod m4 (fun g hg=>by cases hg;omega);replace hw8:=hw8.mod m4 (fun g hg=>by cases hg;omega)
  have z9:=m4.size
  refine Qf (Qh (Qi [false,true,true,true,false,true,false] Z Z (Q8 (vs:=[]) (css:=[]) X3 Z Z trivial Z Z (fun b5 w10 e6 s5 h5=>?_))))
  replace h5 : Blk w10 b5 []:=h5
  have g_b5 : w.heap.size ≤ b5:=by have:=E.size;omega
  have y_b5:=h5.lt
  replace E:=E.trans e6;replace h1:=h1.ext e6;replace h2:=h2.ext e6;replace h3:=h3.ext e6;replace hw1:=hw1.ext e6;replace hw2:=hw2.ext e6;replace hw3:=hw3.ext e6;replace hw4:=hw4.ext e6;replace hw5:=hw5.ext e6;replace hw6:=hw6.ext e6;replace hw7:=hw7.ext e6;replace hw8:=hw8.ext e6;replace h4:=h4.ext e6
  have z10:=e6.size
  refine Qa (Qd K7 Z) Z (Qa (Qj Xi Z (h1.one 1 Z)) Z ?_)
  have hk1 : 1 ≤ x.staged.length:=by first | assumption | omega
  have hs1:=Own.slFromE (α:=Record) hw2 hk1
  replace hs1 : Own w10 w3.heap.size w4.heap.size 5 (slFrom o10 1 5) (List.flatMap (Enc.enc (α:=Record)) (List.drop 1 x.staged)):=hs1
  have hb1 : Become w10 o10 (slFrom o10 1 5):=fun g hg=>.inl (by rwa [Vj] at hg)
  replace sp1:=SepL.set hb1 1 rfl sp1 ⟨(Own.lt hw1),(Own.lt hw2),(Own.lt hw3),(Own.lt hw4),(Own.lt hw5),(Own.lt hw6),(Own.lt hw7),(Own.lt hw8),trivial⟩
  replace sp1 : SepL [o9,slFrom o10 1 5,o11,o12,o13,o14,o15,o16]:=sp1
  refine Qa (Kt X3 Z Z (Own.roomE (α:=Record) hw2) hk1) Z (K2 X3 Z Z (Own.ofBlk (lo:=b5) (hi:=b5 + 1) (sz:=5) h5 (Nat.le_refl _) (Nat.lt_succ_self _) (by simp) (by simp [maxLen])) (Own.src hs1) (Xp _) (by unfold Q4 at hb;simp only [Ya,List.length_nil,List.length_drop];simp only [Enc.sz];omega) (by decide) (by omega) (by omega) Z Z (fun v1 w11 m5 ho2=>?_))
  replace E:=E.step m5 (fun g hg=>by have:=Own.blk (Own.ofBlk (lo:=b5) (hi:=b5 + 1) (sz:=5) h5 (Nat.le_refl _) (Nat.lt_succ_self _) (by simp) (by simp [maxLen])) g hg;omega);replace h1:=h1.mod m5 (fun g hg=>by have:=Own.blk (Own.ofBlk (lo:=b5) (hi:=b5 + 1) (sz:=5) h5 (Nat.le_refl _) (Nat.lt_succ_self _) (by simp) (by simp [maxLen])) g hg;omega);replace h2:=h2.mod m5 (fun g hg=>by have:=Own.blk (Own.ofBlk (lo:=b5) (hi:=b5 + 1) (sz:=5) h5 (Nat.le_refl _) (Nat.lt_succ_self _) (by simp) (by simp [maxLen])) g hg;omega);replace h3:=h3.mod m5 (fun g hg=>by have:=Own.blk (Own.ofBlk (lo:=b5) (hi:=b5 + 1) (sz:=5) h5 (Nat.le_refl _) (Nat.lt_succ_self _) (by simp) (by simp [maxLen])) g hg;omega);replace hw1:=hw1.mod m5 (fun g hg=>by have:=Own.blk (Own.ofBlk (lo:=b5) (hi:=b5 + 1) (sz:=5) h5 (Nat.le_refl _) (Nat.lt_succ_self _) (by simp) (by simp [maxLen])) g hg;omega);replace hw3:=hw3.mod m5 (fun g hg=>by have:=Own.blk (Own.ofBlk (lo:=b5) (hi:=b5 + 1) (sz:=5) h5 (Nat.le_refl _) (Nat.lt_succ_self _) (by simp) (by simp [maxLen])) g hg;omega);replace hw4:=hw4.mod m5 (fun g hg=>by have:=Own.blk (Own.ofBlk (lo:=b5) (hi:=b5 + 1) (sz:=5) h5 (Nat.le_refl _) (Nat.lt_succ_self _) (by simp) (by simp [maxLen])) g hg;omega);replace hw5:=hw5.mod m5 (fun g hg=>by have:=Own.blk (Own.ofBlk (lo:=b5) (hi:=b5 + 1) (sz:=5) h5 (Nat.le_refl _) (Nat.lt_succ_self _) (by simp) (by simp [maxLen])) g hg;omega);replace hw6:=hw6.mod m5 (fun g hg=>by have:=Own.blk (Own.ofBlk (lo:=b5) (hi:=b5 + 1) (sz:=5) h5 (Nat.le_refl _) (Nat.lt_succ_self _) (by simp) (by simp [maxLen])) g hg;omega);replace hw7:=hw7.mod m5 (fun g hg=>by have:=Own.blk (Own.ofBlk (lo:=b5) (hi:=b5 + 1) (sz:=5) h5 (Nat.le_refl _) (Nat.lt_succ_self _) (by simp) (by simp [maxLen])) g hg;omega);replace hw8:=hw8.mod m5 (fun g hg=>by have:=Own.blk (Own.ofBlk (lo:=b5) (hi:=b5 + 1) (sz:=5) h5 (Nat.le_refl _) (Nat.lt_succ_self _) (by simp) (by simp [maxLen])) g hg;omega);replace h4:=h4.mod m5 (fun g hg=>by have:=Own.blk (Own.ofBlk (lo:=b5) (hi:=b5 + 1) (sz:=5) h5 (Nat.le_refl _) (Nat.lt_succ_self _) (by simp) (by simp [maxLen])) g hg;omega);replace hs1:=hs1.mod m5 (fun g hg=>by have:=Own.blk (Own.ofBlk (lo:=b5) (hi:=b5 + 1) (sz:=5) h5 (Nat.le_refl _) (Nat.lt_succ_self _) (by simp) (by simp [maxLen])) g hg;omega)
  have z11:=m5.size
  refine Qa (Qd K7 Z) Z (Y4 (cs':=[o9,v1,o11,o12,o13,o14,o15,o16]) Xi Z Z ho2.one h1 (Nat.le_of_ble_eq_true Z) Z (fun w12 m6 h1'=>?_))
  replace h1:=h1'
  replace E:=E.step m6 (fun g hg=>by cases hg;omega);replace h2:=h2.mod m6 (fun g hg=>by cases hg;omega);replace h3:=h3.mod m6 (fun g hg=>by cases hg;omega);replace hw1:=hw1.mod m6 (fun g hg=>by cases hg;omega);replace hw3:=hw3.mod m6 (fun g hg=>by cases hg;omega);replace hw4:=hw4.mod m6 (fun g hg=>by cases hg;omega);replace hw5:=hw5.mod m6 (fun g hg=>by cases hg;omega);replace hw6:=hw6.mod m6 (fun g hg=>by cases hg;omega);replace hw7:=hw7.mod m6 (fun g hg=>by cases hg;omega);replace hw8:=hw8.mod m6 (fun g hg=>by cases hg;omega);replace h4:=h4.mod m6 (fun g hg=>by cases hg;omega);replace hs1:=hs1.mod m6 (fun g hg=>by cases hg;omega);replace ho2:=ho2.mod m6 (fun g hg=>by cases hg;omega)
  have z12:=m6.size
  refine Qf (Qh (S_regS Xo 2 [2,24] [(0,true)] [(1,true)] [(3,false),(4,true)] (by decide +kernel) Z Z Z Z Z Z Z [(0,.agg [o1,o2,o3,o4,o5,o6,o7,o8].toArray),(1,.pointer (some ⟨b1,0,none⟩)),(2,.pointer (some ⟨b2,0,none⟩)),(3,.pointer (some ⟨b3,0,none⟩)),(4,.bool false),(5,.pointer (some ⟨b4,0,none⟩)),(6,.agg [o1,o2,o3,o4,o5,o6,o7,o8].toArray),(7,.agg [o9,o10,o11,o12,o13,o14,o15,o16].toArray),(8,.pointer (some ⟨b1,1,none⟩)),(9,o10),(10,.int .i64 ((x.staged.length : Nat) : Int)),(11,.bool (((x.staged.length : Nat) : Int) == 0)),(14,.pointer (some ⟨b1,1,none⟩)),(15,o10),(16,.pointer (some ⟨X8 o10,Ko o10 + 0 * 5,none⟩)),(17,.agg (Enc.enc (x.staged[0]'hi1)).toArray),(18,.slice (some ⟨b5,0,none⟩) 0 0),(19,.pointer (some ⟨b1,1,none⟩)),(20,o10),(21,slFrom o10 1 5),(22,v1),(23,.pointer (some ⟨b1,1,none⟩)),(24,.agg [o9,v1,o11,o12,o13,o14,o15,o16].toArray)] [(2,.pointer (some ⟨b2,0,none⟩)),(24,.agg [o9,v1,o11,o12,o13,o14,o15,o16].toArray)] Z ⟨Z,Z,trivial⟩ (fun w'=>Ext w w' ∧ w12.heap.size ≤ w'.heap.size ∧ Blk w' b1 [o9,v1,o11,o12,o13,o14,o15,o16] ∧ Blk w' b2 [.slice none 0 0,.slice none 0 0,.slice none 0 0,.slice none 0 0,.slice none 0 0,.slice none 0 0,.slice none 0 0,.slice none 0 0] ∧ Blk w' b3 [.int .i64 0,.int .i64 0,.int .i64 0,.int .i64 0,.int .i64 0] ∧ Own w' w3.heap.size w4.heap.size 5 o9 (List.flatMap (Enc.enc (α:=Record)) x.queue) ∧ Own w' w3.heap.size w4.heap.size 5 o11 (List.flatMap (Enc.enc (α:=Record)) x.inputs) ∧ Own w' w3.heap.size w4.heap.size 4 o12 (List.flatMap (Enc.enc (α:=Cell)) x.cells) ∧ Own w' w3.heap.size w4.heap.size 1 o13 (List.flatMap (Enc.enc (α:=Int)) x.sums) ∧ Own w' w3.heap.size w4.heap.size 1 o14 (List.flatMap (Enc.enc (α:=Bool)) x.black) ∧ Own w' w3.heap.size w4.heap.size 1 o15 (List.flatMap (Enc.enc (α:=Bool)) x.caps) ∧ Own w' w3.heap.size w4.heap.size 2 o16 (List.flatMap (Enc.enc (α:=Done)) x.dones) ∧ Blk w' b4 [.int .i64 ((x.staged[0]'hi1).op),.int .i64 (((x.staged[0]'hi1).stamp).epoch),.int .i64 (((x.staged[0]'hi1).stamp).turn),.int .i64 ((x.staged[0]'hi1).key),.int .i64 ((x.staged[0]'hi1).val)] ∧ Own w' w3.heap.size w4.heap.size 5 (slFrom o10 1 5) (List.flatMap (Enc.enc (α:=Record)) (List.drop 1 x.staged)) ∧ Own w' b5 w11.heap.size 5 v1 ([] ++ List.flatMap (Enc.enc (α:=Record)) (List.drop 1 x.staged))) b2 (fun w'=>Blk w' b2 [o9,v1,o11,o12,o13,o14,o15,o16]) (fun w13 e7=>?_) (fun w13 hphi_w13=>?_)))
  ·replace E:=E.trans e7;replace h1:=h1.ext e7;replace h2:=h2.ext e7;replace h3:=h3.ext e7;replace hw1:=hw1.ext e7;replace hw3:=hw3.ext e7;replace hw4:=hw4.ext e7;replace hw5:=hw5.ext e7;replace hw6:=hw6.ext e7;replace hw7:=hw7.ext e7;replace hw8:=hw8.ext e7;replace h4:=h4.ext e7;replace hs1:=hs1.ext e7;replace ho2:=ho2.ext e7
   have z13:=e7.size
   refine Qa (Qo Q7 Z h1.at Z) Z (Ql ⟨Z,Z,Z,Z,Z,Z,Z,Z,Z,Z,Z,Z,Z,Z,Z,Z,Z,Z,Z,Z,Z,Z,Z,trivial⟩ ⟨E,(by omega),h1,h2,h3,hw1,hw3,hw4,hw5,hw6,hw7,hw8,h4,hs1,ho2⟩)
  clear E h1 h2 h3 hw1 hw3 hw4 hw5 hw6 hw7 hw8 h4 hs1 ho2
  obtain ⟨E,z14,h1,h2,h3,hw1,hw3,hw4,hw5,hw6,hw7,hw8,h4,hs1,ho2⟩:=hphi_w13
  refine ⟨fs_store (cs':=[o9,v1,o11,o12,o13,o14,o15,o16]) Q7 Z Z Z (Qb hw1.one (Qb ho2.one (Qb hw3.one (Qb hw4.one (Qb hw5.one (Qb hw6.one (Qb hw7.one (Qb hw8.one Z)))))))) h2 (Nat.le_of_ble_eq_true Z) Z,?_⟩
  refine JS_st (v:=.agg (Enc.enc (x.staged[0]'hi1)).toArray) (fun wX mX=>?_) Z ?_
  ·have E:=E.step mX (fun g hg=>by cases hg;omega);replace h4:=h4.mod mX (fun g hg=>by cases hg;omega);exact Qo Xh rfl h4.at rfl
  refine JS_end (fun w14 m7 hR=>?_)
  replace h2:=hR
  clear hR
  replace E:=E.step m7 (fun g hg=>by cases hg;omega);replace h1:=h1.mod m7 (fun g hg=>by cases hg;omega);replace h3:=h3.mod m7 (fun g hg=>by cases hg;omega);replace hw1:=hw1.mod m7 (fun g hg=>by cases hg;omega);replace hw3:=hw3.mod m7 (fun g hg=>by cases hg;omega);replace hw4:=hw4.mod m7 (fun g hg=>by cases hg;omega);replace hw5:=hw5.mod m7 (fun g hg=>by cases hg;omega);replace hw6:=hw6.mod m7 (fun g hg=>by cases hg;omega);replace hw7:=hw7.mod m7 (fun g hg=>by cases hg;omega);replace hw8:=hw8.mod m7 (fun g hg=>by cases hg;omega);replace h4:=h4.mod m7 (fun g hg=>by cases hg;omega);replace hs1:=hs1.mod m7 (fun g hg=>by cases hg;omega);replace ho2:=ho2.mod m7 (fun g hg=>by cases hg;omega)
  have z15:=m7.size
  refine Qs (cs':=[.int .i64 ((x.staged[0]'hi1).op),.int .i64 (((x.staged[0]'hi1).stamp).epoch),.int .i64 (((x.staged[0]'hi1).stamp).turn),.int .i64 ((x.staged[0]'hi1).key),.int .i64 ((x.staged[0]'hi1).val)]) Xh Z Z Z Z h3 (Nat.le_of_ble_eq_true Z) Z (fun w15 m8 h3'=>?_)
  replace h3:=h3'
  replace E:=E.step m8 (fun g hg=>by cases hg;omega);replace h1:=h1.mod m8 (fun g hg=>by cases hg;omega);replace h2:=h2.mod m8 (fun g hg=>by cases hg;omega);replace hw1:=hw1.mod m8 (fun g hg=>by cases hg;omega);replace hw3:=hw3.mod m8 (fun g hg=>by cases hg;omega);replace hw4:=hw4.mod m8 (fun g hg=>by cases hg;omega);replace hw5:=hw5.mod m8 (fun g hg=>by cases hg;omega);replace hw6:=hw6.mod m8 (fun g hg=>by cases hg;omega);replace hw7:=hw7.mod m8 (fun g hg=>by cases hg;omega);replace hw8:=hw8.mod m8 (fun g hg=>by cases hg;omega);replace h4:=h4.mod m8 (fun g hg=>by cases hg;omega);replace hs1:=hs1.mod m8 (fun g hg=>by cases hg;omega);replace ho2:=ho2.mod m8 (fun g hg=>by cases hg;omega)
  have z16:=m8.size
  refine Qa (Qg Z) Z (Qf (Qx (Yo (l:=[.cell 2 33,.cell 3 42,.tmp 4]) (vs:=[.agg [o9,v1,o11,o12,o13,o14,o15,o16].toArray,.agg (Enc.enc (x.staged[0]'hi1)).toArray,.bool true]) Z ⟨.cell Z (Qu Q7 h2.at Z),.cell Z (Qu Xh h3.at Z),.tmp Z,trivial⟩ Z E ?_)))
  rw [unst_yes hsl]
  exact ⟨_,Z,(Worker.mkO (⟨x.queue,[] ++ (List.drop 1 x.staged),x.inputs,x.cells,x.sums,x.black,x.caps,x.dones⟩ : Worker) ⟨⟨(Own.sep hw1 ho2 (by omega)),⟨sp1.1.2.1,⟨sp1.1.2.2.1,⟨sp1.1.2.2.2.1,⟨sp1.1.2.2.2.2.1,⟨sp1.1.2.2.2.2.2.1,⟨sp1.1.2.2.2.2.2.2.1,trivial⟩⟩⟩⟩⟩⟩⟩,⟨⟨(Own.sep ho2 hw3 (by omega)),⟨(Own.sep ho2 hw4 (by omega)),⟨(Own.sep ho2 hw5 (by omega)),⟨(Own.sep ho2 hw6 (by omega)),⟨(Own.sep ho2 hw7 (by omega)),⟨(Own.sep ho2 hw8 (by omega)),trivial⟩⟩⟩⟩⟩⟩,⟨⟨sp1.2.2.1.1,⟨sp1.2.2.1.2.1,⟨sp1.2.2.1.2.2.1,⟨sp1.2.2.1.2.2.2.1,⟨sp1.2.2.1.2.2.2.2.1,trivial⟩⟩⟩⟩⟩,⟨⟨sp1.2.2.2.1.1,⟨sp1.2.2.2.1.2.1,⟨sp1.2.2.2.1.2.2.1,⟨sp1.2.2.2.1.2.2.2.1,trivial⟩⟩⟩⟩,⟨⟨sp1.2.2.2.2.1.1,⟨sp1.2.2.2.2.1.2.1,⟨sp1.2.2.2.2.1.2.2.1,trivial⟩⟩⟩,⟨⟨sp1.2.2.2.2.2.1.1,⟨sp1.2.2.2.2.2.1.2.1,trivial⟩⟩,⟨⟨sp1.2.2.2.2.2.2.1.1,trivial⟩,⟨trivial,trivial⟩⟩⟩⟩⟩⟩⟩⟩ (Own.widen hw1 (by omega) (by omega)) (Own.widen ho2 (by omega) (by omega)) (Own.widen hw3 (by omega) (by omega)) (Own.widen hw4 (by omega) (by omega)) (Own.widen hw5 (by omega) (by omega)) (Own.widen hw6 (by omega) (by omega)) (Own.widen hw7 (by omega) (by omega)) (Own.widen hw8 (by omega) (by omega)))⟩

set_option maxHeartbeats 4000000 in
set_option maxRecDepth 20000 in
theorem s_TakeInput (cg : List Value) (g : Graph) (cx : List Value) (x : Worker) (w : World) (hg : Dat.R w 0 w.heap.size cg g) (hx : Dat.R w 0 w.heap.size cx x) (hb : Q4 x ≤ 1048576) : Ct Tryz.prog 9 [.agg cg.toArray,.agg cx.toArray] w (fun v w'=>∃ c0,v = .tuple [.agg c0.toArray,.bool ((Yd g x).2)].toArray ∧ Own1.O w' w.heap.size w'.heap.size c0 ((Yd g x).1)):=by
 refine Yx Tryz.func9 Z Tryz.ntmps9 Z ?_
 obtain ⟨o1,rfl,hd1⟩:=Graph.op hg
 obtain ⟨o2,o3,o4,o5,o6,o7,o8,o9,rfl,hd2,hd3,hd4,hd5,hd6,hd7,hd8,hd9⟩:=Worker.op hx
 refine Yh [(0,.agg [o1,.int .i64 g.workers,.int .i64 g.cap].toArray),(1,.agg [o2,o3,o4,o5,o6,o7,o8,o9].toArray)] ⟨Z,Z,trivial⟩ ?_
 have E : Ext w w:=Ext.refl w
 refine Qh (Qi [false,false,false,true] Z Z (Y5 Z Z (fun b1 w1 e1 s1 h1=>?_)))
 have g_b1 : w.heap.size ≤ b1:=by have:=E.size;omega
 have y_b1:=h1.lt
 replace E:=E.trans e1
 have z1:=e1.size
 refine Y5 Z Z (fun b2 w2 e2 s2 h2=>?_)
 have g_b2 : w.heap.size ≤ b2:=by have:=E.size;omega
 have y_b2:=h2.lt
 replace E:=E.trans e2;replace h1:=h1.ext e2
 have z2:=e2.size
 refine Q6 Q7 Z (fun b3 w3 e3 s3 h3=>?_)
 have g_b3 : w.heap.size ≤ b3:=by have:=E.size;omega
 have y_b3:=h3.lt
 replace E:=E.trans e3;replace h1:=h1.ext e3;replace h2:=h2.ext e3
 have z3:=e3.size
 refine Qa (Qg Z) Z (Qf (Qh (Qi [true,false,false] Z Z (Qa (Qo Q7 Z h2.at Z) Z (Qv Tryz.call32 Z (s_l12Copy [o2,o3,o4,o5,o6,o7,o8,o9] x _ (Worker.mkR x (RdD.any (hd2.ext E)) (RdD.any (hd3.ext E)) (RdD.any (hd4.ext E)) (RdD.any (hd5.ext E)) (RdD.any (hd6.ext E)) (RdD.any (hd7.ext E)) (RdD.any (hd8.ext E)) (RdD.any (hd9.ext E))) (by first | omega | (simp only [Qt];omega) | (rw [Qt];done) | (simp only [Qt];done))) Z (fun _ w4 e4 ho1=>?_))))))
 obtain ⟨_,rfl,ho1⟩:=ho1
 have g_ho1 : w.heap.size ≤ w3.heap.size:=E.size
 replace E:=E.trans e4;replace h1:=h1.ext e4;replace h2:=h2.ext e4;replace h3:=h3.ext e4
 have z4:=e4.size
 obtain ⟨o10,o11,o12,o13,o14,o15,o16,o17,rfl,sp1,hw1,hw2,hw3,hw4,hw5,hw6,hw7,hw8⟩:=Worker.opO ho1
 refine Qs (cs':=[o10,o11,o12,o13,o14,o15,o16,o17]) Q7 Z Z Z (Qb hw1.one (Qb hw2.one (Qb hw3.one (Qb hw4.one (Qb hw5.one (Qb hw6.one (Qb hw7.one (Qb hw8.one Z)))))))) h2 (Nat.le_of_ble_eq_true Z) Z (fun w5 m1 h2'=>?_)
 replace h2:=h2'
 replace E:=E.step m1 (fun g hg=>by cases hg;omega);replace h1:=h1.mod m1 (fun g hg=>by cases hg;omega);replace h3:=h3.mod m1 (fun g hg=>by cases hg;omega);replace hw1:=hw1.mod m1 (fun g hg=>by cases hg;omega);replace hw2:=hw2.mod m1 (fun g hg=>by cases hg;omega);replace hw3:=hw3.mod m1 (fun g hg=>by cases hg;omega);replace hw4:=hw4.mod m1 (fun g hg=>by cases hg;omega);replace hw5:=hw5.mod m1 (fun g hg=>by cases hg;omega);replace hw6:=hw6.mod m1 (fun g hg=>by cases hg;omega);replace hw7:=hw7.mod m1 (fun g hg=>by cases hg;omega);replace hw8:=hw8.mod m1 (fun g hg=>by cases hg;omega)
 have z5:=m1.size
 refine Qf (Qh (Qh (Qi [true,false,true,true,true,true,false,true,true,true,true,true,true,true,true,true,true,true,true,true,true,true,true,true,true,true,true] Z Z (Qa (Qo Xt Z h1.at Z) Z (Qv Tryz.call33 Z (s_GraphOk [o1,.int .i64 g.workers,.int .i64 g.cap] g _ (Graph.mkR g (RdD.any (hd1.ext E)))) Z (fun _ w6 e5 hv=>?_))))))
 subst hv
 replace E:=E.trans e5;replace h1:=h1.ext e5;replace h2:=h2.ext e5;replace h3:=h3.ext e5;replace hw1:=hw1.ext e5;replace hw2:=hw2.ext e5;replace hw3:=hw3.ext e5;replace hw4:=hw4.ext e5;replace hw5:=hw5.ext e5;replace hw6:=hw6.ext e5;replace hw7:=hw7.ext e5;replace hw8:=hw8.ext e5
 have z6:=e5.size
 refine Qa (Y1 Z) Z (Qa (Qe Z) Z (Xg 23 [(0,.agg [o1,.int .i64 g.workers,.int .i64 g.cap].toArray),(1,.agg [o2,o3,o4,o5,o6,o7,o8,o9].toArray),(2,.pointer (some ⟨b1,0,none⟩)),(3,.pointer (some ⟨b2,0,none⟩)),(4,.pointer (some ⟨b3,0,none⟩)),(5,.bool false),(6,.agg [o2,o3,o4,o5,o6,o7,o8,o9].toArray),(7,.agg [o10,o11,o12,o13,o14,o15,o16,o17].toArray),(34,.bool (((((!(Yf g)) || (!(Yc g x))) || (decide (0 < ((x.staged.length : Nat) : Int)))) || (decide (0 < ((x.queue.length : Nat) : Int)))) || (((x.inputs.length : Nat) : Int) == 0)))] (fun w'=>Ext w w' ∧ w6.heap.size ≤ w'.heap.size ∧ Blk w' b1 ([o1,.int .i64 g.workers,.int .i64 g.cap]) ∧ Blk w' b2 [o10,o11,o12,o13,o14,o15,o16,o17] ∧ Blk w' b3 [.slice none 0 0,.slice none 0 0,.slice none 0 0,.slice none 0 0,.slice none 0 0,.slice none 0 0,.slice none 0 0,.slice none 0 0] ∧ Own w' w3.heap.size w4.heap.size 5 o10 (List.flatMap (Enc.enc (α:=Record)) x.queue) ∧ Own w' w3.heap.size w4.heap.size 5 o11 (List.flatMap (Enc.enc (α:=Record)) x.staged) ∧ Own w' w3.heap.size w4.heap.size 5 o12 (List.flatMap (Enc.enc (α:=Record)) x.inputs) ∧ Own w' w3.heap.size w4.heap.size 4 o13 (List.flatMap (Enc.enc (α:=Cell)) x.cells) ∧ Own w' w3.heap.size w4.heap.size 1 o14 (List.flatMap (Enc.enc (α:=Int)) x.sums) ∧ Own w' w3.heap.size w4.heap.size 1 o15 (List.flatMap (Enc.enc (α:=Bool)) x.black) ∧ Own w' w3.heap.size w4.heap.size 1 o16 (List.flatMap (Enc.enc (α:=Bool)) x.caps) ∧ Own w' w3.heap.size w4.heap.size 2 o17 (List.flatMap (Enc.enc (α:=Done)) x.dones)) ?_ ?_))
 ·refine Ym (gd:=11) Z Z (fun hg1=>?_) (fun hg1=>?_)
  ·refine Qc Z Z Z Z (Qc Z Z Z Z ?_)
   refine Q1 Z Z Z Z ?_
   refine Qc Z Z Z Z (Qa (Qr Z Z) Z (Qa (Qe Z) Z (Qc Z Z Z Z (Qc Z Z Z Z (Qc Z Z Z Z (Qc Z Z Z Z (Qa (Qr Z Z) Z (Qa (Qe Z) Z (Qc Z Z Z Z (Qc Z Z Z Z (Qc Z Z Z Z (Qc Z Z Z Z (Qa (Qr Z Z) Z (Qa (Qe Z) Z (Qc Z Z Z Z (Qc Z Z Z Z (Qc Z Z Z Z (Qc Z Z Z Z (Qa (Qr Z Z) Z (Ql ⟨Z,Z,Z,Z,Z,Z,Z,Z,congrArg (fun b=>some (Value.bool b)) (show true = (((((!(Yf g)) || (!(Yc g x))) || (decide (0 < ((x.staged.length : Nat) : Int)))) || (decide (0 < ((x.queue.length : Nat) : Int)))) || (((x.inputs.length : Nat) : Int) == 0)) by first | (rw [hg1] <;> rfl) | (simp [hg1];done) | (simp only [Qp] <;> simp)),trivial⟩ ⟨E,(by omega),h1,h2,h3,hw1,hw2,hw3,hw4,hw5,hw6,hw7,hw8⟩))))))))))))))))))))
  ·refine Qk Z Z (Qo Xt Z h1.at Z) Z (Qk Z Z (Qo Q7 Z h2.at Z) Z ?_)
   refine Y3 Z Z ?_
   refine Qv Tryz.call24 Z (s_WorkerOk [o1,.int .i64 g.workers,.int .i64 g.cap] g [o10,o11,o12,o13,o14,o15,o16,o17] x _ (Graph.mkR g (RdD.any (hd1.ext E))) (Worker.mkR x (RdD.any (Own.rdD hw1)) (RdD.any (Own.rdD hw2)) (RdD.any (Own.rdD hw3)) (RdD.any (Own.rdD hw4)) (RdD.any (Own.rdD hw5)) (RdD.any (Own.rdD hw6)) (RdD.any (Own.rdD hw7)) (RdD.any (Own.rdD hw8)))) Z (fun _ w8 e6 hv=>?_)
   subst hv
   replace E:=E.trans e6;replace h1:=h1.ext e6;replace h2:=h2.ext e6;replace h3:=h3.ext e6;replace hw1:=hw1.ext e6;replace hw2:=hw2.ext e6;replace hw3:=hw3.ext e6;replace hw4:=hw4.ext e6;replace hw5:=hw5.ext e6;replace hw6:=hw6.ext e6;replace hw7:=hw7.ext e6;replace hw8:=hw8.ext e6
   have z7:=e6.size
   refine Qk Z Z (Y1 Z) Z (Qa (Qq Z Z) Z (Qa (Qe Z) Z ?_))
   refine Ym (gd:=17) Z Z (fun hg2=>?_) (fun hg2=>?_)
   ·refine Qc Z Z Z Z (Qc Z Z Z Z (Qc Z Z Z Z (Qc Z Z Z Z (Qa (Qr Z Z) Z (Qa (Qe Z) Z (Qc Z Z Z Z (Qc Z Z Z Z (Qc Z Z Z Z (Qc Z Z Z Z (Qa (Qr Z Z) Z (Qa (Qe Z) Z (Qc Z Z Z Z (Qc Z Z Z Z (Qc Z Z Z Z (Qc Z Z Z Z (Qa (Qr Z Z) Z (Ql ⟨Z,Z,Z,Z,Z,Z,Z,Z,congrArg (fun b=>some (Value.bool b)) (show true = (((((!(Yf g)) || (!(Yc g x))) || (decide (0 < ((x.staged.length : Nat) : Int)))) || (decide (0 < ((x.queue.length : Nat) : Int)))) || (((x.inputs.length : Nat) : Int) == 0)) by first | (rw [hg1,hg2] <;> rfl) | (simp [hg1,hg2];done) | (simp only [Qp] <;> simp)),trivial⟩ ⟨E,(by omega),h1,h2,h3,hw1,hw2,hw3,hw4,hw5,hw6,hw7,hw8⟩)))))))))))))))))
   ·refine Qk Z Z (Qd K7 Z) Z (Qk Z Z (Qj Xi Z (h2.one 1 Z)) Z (Qk Z Z (Yg Tryz.underlying27 Z (Own.len (by decide) hw2)) Z (Qk Z Z (Un Z Z) Z (Qa (Qq Z Z) Z (Qa (Qe Z) Z ?_)))))
    refine Ym (gd:=23) Z Z (fun hg3=>?_) (fun hg3=>?_)
    ·have hg3n : x.staged.length > 0:=by first | (have h:=of_decide_eq_true hg3;omega) | (have h:=hg3;simp at h;omega)
     refine Qc Z Z Z Z (Qc Z Z Z Z (Qc Z Z Z Z (Qc Z Z Z Z (Qa (Qr Z Z) Z (Qa (Qe Z) Z (Qc Z Z Z Z (Qc Z Z Z Z (Qc Z Z Z Z (Qc Z Z Z Z (Qa (Qr Z Z) Z (Ql ⟨Z,Z,Z,Z,Z,Z,Z,Z,congrArg (fun b=>some (Value.bool b)) (show true = (((((!(Yf g)) || (!(Yc g x))) || (decide (0 < ((x.staged.length : Nat) : Int)))) || (decide (0 < ((x.queue.length : Nat) : Int)))) || (((x.inputs.length : Nat) : Int) == 0)) by first | (rw [hg1,hg2,hg3] <;> rfl) | (simp [hg1,hg2,hg3];done) | (simp only [Qp] <;> simp)),trivial⟩ ⟨E,(by omega),h1,h2,h3,hw1,hw2,hw3,hw4,hw5,hw6,hw7,hw8⟩)))))))))))
    ·have hg3n : ¬ x.staged.length > 0:=by first | (have h:=of_decide_eq_false hg3;omega) | (have h:=hg3;simp at h;omega)
     refine Qk Z Z (Qd Xj Z) Z (Qk Z Z (Qj Xi Z (h2.one 0 Z)) Z (Qk Z Z (Yg Tryz.underlying27 Z (Own.len (by decide) hw1)) Z (Qk Z Z (Un Z Z) Z (Qa (Qq Z Z) Z (Qa (Qe Z) Z ?_)))))
     refine Ym (gd:=29) Z Z (fun hg4=>?_) (fun hg4=>?_)
     ·have hg4n : x.queue.length > 0:=by first | (have h:=of_decide_eq_true hg4;omega) | (have h:=hg4;simp at h;omega)
      refine Qc Z Z Z Z (Qc Z Z Z Z (Qc Z Z Z Z (Qc Z Z Z Z (Qa (Qr Z Z) Z (Ql ⟨Z,Z,Z,Z,Z,Z,Z,Z,congrArg (fun b=>some (Value.bool b)) (show true = (((((!(Yf g)) || (!(Yc g x))) || (decide (0 < ((x.staged.length : Nat) : Int)))) || (decide (0 < ((x.queue.length : Nat) : Int)))) || (((x.inputs.length : Nat) : Int) == 0)) by first | (rw [hg1,hg2,hg3,hg4] <;> rfl) | (simp [hg1,hg2,hg3,hg4];done) | (simp only [Qp] <;> simp)),trivial⟩ ⟨E,(by omega),h1,h2,h3,hw1,hw2,hw3,hw4,hw5,hw6,hw7,hw8⟩)))))
     ·have hg4n : ¬ x.queue.length > 0:=by first | (have h:=of_decide_eq_false hg4;omega) | (have h:=hg4;simp at h;omega)
      refine Qk Z Z (Qd Kc Z) Z (Qk Z Z (Qj Xi Z (h2.one 2 Z)) Z (Qk Z Z (Yg Tryz.underlying27 Z (Own.len (by decide) hw3)) Z (Qk Z Z (Yq Z Z) Z (Qa (Qq Z Z) Z (Ql ⟨Z,Z,Z,Z,Z,Z,Z,Z,congrArg (fun b=>some (Value.bool b)) (show (((x.inputs.length : Nat) : Int) == 0) = (((((!(Yf g)) || (!(Yc g x))) || (decide (0 < ((x.staged.length : Nat) : Int)))) || (decide (0 < ((x.queue.length : Nat) : Int)))) || (((x.inputs.length : Nat) : Int) == 0)) by first | (rw [hg1,hg2,hg3,hg4] <;> rfl) | (simp [hg1,hg2,hg3,hg4];done) | (simp only [Qp] <;> simp)),trivial⟩ ⟨E,(by omega),h1,h2,h3,hw1,hw2,hw3,hw4,hw5,hw6,hw7,hw8⟩)))))
 clear E h1 h2 h3 hw1 hw2 hw3 hw4 hw5 hw6 hw7 hw8
 rintro w7 ⟨E,z8,h1,h2,h3,hw1,hw2,hw3,hw4,hw5,hw6,hw7,hw8⟩
 refine Qf (Qw Z (fun hc1=>?_) (fun hc1=>?_))
 ·refine Qh (Qi [true,false,true] Z Z (Qa (Qo Q7 Z h2.at Z) Z (Qs (cs':=[o10,o11,o12,o13,o14,o15,o16,o17]) Q7 Z Z Z (Qb hw1.one (Qb hw2.one (Qb hw3.one (Qb hw4.one (Qb hw5.one (Qb hw6.one (Qb hw7.one (Qb hw8.one Z)))))))) h3 (Nat.le_of_ble_eq_true Z) Z (fun w9 m2 h3'=>?_))))
  replace h3:=h3'
  replace E:=E.step m2 (fun g hg=>by cases hg;omega);replace h1:=h1.mod m2 (fun g hg=>by cases hg;omega);replace h2:=h2.mod m2 (fun g hg=>by cases hg;omega);replace hw1:=hw1.mod m2 (fun g hg=>by cases hg;omega);replace hw2:=hw2.mod m2 (fun g hg=>by cases hg;omega);replace hw3:=hw3.mod m2 (fun g hg=>by cases hg;omega);replace hw4:=hw4.mod m2 (fun g hg=>by cases hg;omega);replace hw5:=hw5.mod m2 (fun g hg=>by cases hg;omega);replace hw6:=hw6.mod m2 (fun g hg=>by cases hg;omega);replace hw7:=hw7.mod m2 (fun g hg=>by cases hg;omega);replace hw8:=hw8.mod m2 (fun g hg=>by cases hg;omega)
  have z9:=m2.size
  refine Qa (Qg Z) Z (Qf (Qx (Yo (l:=[.cell 4 33,.tmp 5]) (vs:=[.agg [o10,o11,o12,o13,o14,o15,o16,o17].toArray,.bool false]) Z ⟨.cell Z (Qu Q7 h3.at Z),.tmp Z,trivial⟩ Z E ?_)))
  rw [take_no hc1]
  exact ⟨_,Z,(Worker.mkO x sp1 (Own.widen hw1 (by omega) (by omega)) (Own.widen hw2 (by omega) (by omega)) (Own.widen hw3 (by omega) (by omega)) (Own.widen hw4 (by omega) (by omega)) (Own.widen hw5 (by omega) (by omega)) (Own.widen hw6 (by omega) (by omega)) (Own.widen hw7 (by omega) (by omega)) (Own.widen hw8 (by omega) (by omega)))⟩
 ·have htl:=take_lt hc1
  refine Qy (Qh (T7 Xo [7] [(0,true),(1,true),(2,true),(3,true),(4,true),(5,true),(6,false)] [(7,false),(8,true),(9,false)] (by decide +kernel) Z Z (fun w10 e7=>?_)))
  replace E:=E.trans e7;replace h1:=h1.ext e7;replace h2:=h2.ext e7;replace h3:=h3.ext e7;replace hw1:=hw1.ext e7;replace hw2:=hw2.ext e7;replace hw3:=hw3.ext e7;replace hw4:=hw4.ext e7;replace hw5:=hw5.ext e7;replace hw6:=hw6.ext e7;replace hw7:=hw7.ext e7;replace hw8:=hw8.ext e7
  have z10:=e7.size
  refine Qa (Qd Xj Z) Z (Qa (Qj Xi Z (h2.one 0 Z)) Z (Qa (Qd Kc Z) Z (Qa (Qj Xi Z (h2.one 2 Z)) Z ?_)))
  have hi1 : 0 < x.inputs.length:=(by first | assumption | omega | (simp only [List.length_set];first | assumption | omega) | (simp only [List.getElem_set_self,List.length_set];first | assumption | omega) | (simp only [Xc,Yp,List.length_set];first | assumption | omega) | (simp;done))
  refine Qa (Ye (i:=0) X3 Z Z (Own.rd (by decide) hw3) hi1) Z (Qa (Qo Xh Z ((Own.rd (by decide) hw3).get hi1) Z) Z (Q8 (vs:=[.agg (Enc.enc (x.inputs[0]'hi1)).toArray]) (css:=[[.int .i64 ((x.inputs[0]'hi1).op),.int .i64 (((x.inputs[0]'hi1).stamp).epoch),.int .i64 (((x.inputs[0]'hi1).stamp).turn),.int .i64 ((x.inputs[0]'hi1).key),.int .i64 ((x.inputs[0]'hi1).val)]]) X3 Z Z ⟨⟨Z,Z⟩,trivial⟩ Z Z (fun b4 w11 e8 s4 h4=>?_)))
  replace h4 : Blk w11 b4 [.int .i64 ((x.inputs[0]'hi1).op),.int .i64 (((x.inputs[0]'hi1).stamp).epoch),.int .i64 (((x.inputs[0]'hi1).stamp).turn),.int .i64 ((x.inputs[0]'hi1).key),.int .i64 ((x.inputs[0]'hi1).val)]:=h4
  have g_b4 : w.heap.size ≤ b4:=by have:=E.size;omega
  have y_b4:=h4.lt
  replace E:=E.trans e8;replace h1:=h1.ext e8;replace h2:=h2.ext e8;replace h3:=h3.ext e8;replace hw1:=hw1.ext e8;replace hw2:=hw2.ext e8;replace hw3:=hw3.ext e8;replace hw4:=hw4.ext e8;replace hw5:=hw5.ext e8;replace hw6:=hw6.ext e8;replace hw7:=hw7.ext e8;replace hw8:=hw8.ext e8
  have z11:=e8.size
  refine Hq ?_
  refine J2_X Z ?_
  refine Kd X3 Z Z hw1 (Src.ofBlk h4 Z) Z (by unfold Q4 at hb;simp only [Ya,List.length_nil,List.length_cons,List.length_drop];simp only [Enc.sz];omega) (by decide) (by omega) (by omega) Z Z (fun v1 w12 m3 ho2 hb1=>?_)
  have hn1 : ∀ g,Value.ownBlock v1 = some g → g < w4.heap.size ∨ w11.heap.size ≤ g:=fun g hg=>(hb1 g hg).elim (fun h=>.inl (by have:=Own.blk hw1 g h;omega)) (fun h=>.inr h)
  have sq1:=sp1
  replace sp1:=SepL.set hb1 0 rfl sp1 ⟨(Own.lt hw1),(Own.lt hw2),(Own.lt hw3),(Own.lt hw4),(Own.lt hw5),(Own.lt hw6),(Own.lt hw7),(Own.lt hw8),trivial⟩
  replace sp1 : SepL [v1,o11,o12,o13,o14,o15,o16,o17]:=sp1
  replace E:=E.step m3 (fun g hg=>by have:=Own.blk hw1 g hg;omega);replace h1:=h1.mod m3 (fun g hg=>by have:=Own.blk hw1 g hg;omega);replace h2:=h2.mod m3 (fun g hg=>by have:=Own.blk hw1 g hg;omega);replace h3:=h3.mod m3 (fun g hg=>by have:=Own.blk hw1 g hg;omega);replace hw2:=Own.modS hw2 m3 sq1.1.1;replace hw3:=Own.modS hw3 m3 sq1.1.2.1;replace hw4:=Own.modS hw4 m3 sq1.1.2.2.1;replace hw5:=Own.modS hw5 m3 sq1.1.2.2.2.1;replace hw6:=Own.modS hw6 m3 sq1.1.2.2.2.2.1;replace hw7:=Own.modS hw7 m3 sq1.1.2.2.2.2.2.1;replace hw8:=Own.modS hw8 m3 sq1.1.2.2.2.2.2.2.1
  have z12:=m3.size
  replace ho2 : Own w12 w3.heap.size w12.heap.size 5 v1 (List.flatMap (Enc.enc (α:=Record)) (x.queue ++ [(x.inputs[0]'hi1)])):=by rw [List.flatMap_append];exact ho2
  refine Af ?_
  refine Qa (Qd Xj Z) Z (Y4 (cs':=[v1,o11,o12,o13,o14,o15,o16,o17]) Xi Z Z ho2.one h2 (Nat.le_of_ble_eq_true Z) Z (fun w13 m4 h2'=>?_))
  replace h2:=h2'
  replace E:=E.step m4 (fun g hg=>by cases hg;omega);replace h1:=h1.mod m4 (fun g hg=>by cases hg;omega);replace h3:=h3.mod m4 (fun g hg=>by cases hg;omega);replace hw2:=hw2.mod m4 (fun g hg=>by cases hg;omega);replace hw3:=hw3.mod m4 (fun g hg=>by cases hg;omega);replace hw4:=hw4.mod m4 (fun g hg=>by cases hg;omega);replace hw5:=hw5.mod m4 (fun g hg=>by cases hg;omega);replace hw6:=hw6.mod m4 (fun g hg=>by cases hg;omega);replace hw7:=hw7.mod m4 (fun g hg=>by cases hg;omega);replace hw8:=hw8.mod m4 (fun g hg=>by cases hg;omega);replace ho2:=Own.modN ho2 m4 (fun g hg hv=>by have hN:=hn1 g hv;have hB:=Own.blk ho2 g hv;cases hg;omega)
  have z13:=m4.size
  refine Qf (Qh (Qi [false,true,true,true,false,true,false] Z Z (Q8 (vs:=[]) (css:=[]) X3 Z Z trivial Z Z (fun b5 w14 e9 s5 h5=>?_))))
  replace h5 : Blk w14 b5 []:=h5
  have g_b5 : w.heap.size ≤ b5:=by have:=E.size;omega
  have y_b5:=h5.lt
  replace E:=E.trans e9;replace h1:=h1.ext e9;replace h2:=h2.ext e9;replace h3:=h3.ext e9;replace hw2:=hw2.ext e9;replace hw3:=hw3.ext e9;replace hw4:=hw4.ext e9;replace hw5:=hw5.ext e9;replace hw6:=hw6.ext e9;replace hw7:=hw7.ext e9;replace hw8:=hw8.ext e9;replace ho2:=ho2.ext e9
  have z14:=e9.size
  refine Qa (Qd Kc Z) Z (Qa (Qj Xi Z (h2.one 2 Z)) Z ?_)
  have hk1 : 1 ≤ x.inputs.length:=by first | assumption | omega
  have hs1:=Own.slFromE (α:=Record) hw3 hk1
  replace hs1 : Own w14 w3.heap.size w4.heap.size 5 (slFrom o12 1 5) (List.flatMap (Enc.enc (α:=Record)) (List.drop 1 x.inputs)):=hs1
  have hb2 : Become w14 o12 (slFrom o12 1 5):=fun g hg=>.inl (by rwa [Vj] at hg)
  replace sp1:=SepL.set hb2 2 rfl sp1 ⟨(Own.lt ho2),(Own.lt hw2),(Own.lt hw3),(Own.lt hw4),(Own.lt hw5),(Own.lt hw6),(Own.lt hw7),(Own.lt hw8),trivial⟩
  replace sp1 : SepL [v1,o11,slFrom o12 1 5,o13,o14,o15,o16,o17]:=sp1
  refine Qa (Kt X3 Z Z (Own.roomE (α:=Record) hw3) hk1) Z (K2 X3 Z Z (Own.ofBlk (lo:=b5) (hi:=b5 + 1) (sz:=5) h5 (Nat.le_refl _) (Nat.lt_succ_self _) (by simp) (by simp [maxLen])) (Own.src hs1) (Xp _) (by unfold Q4 at hb;simp only [Ya,List.length_nil,List.length_cons,List.length_drop];simp only [Enc.sz];omega) (by decide) (by omega) (by omega) Z Z (fun v2 w15 m5 ho3=>?_))
  replace E:=E.step m5 (fun g hg=>by have:=Own.blk (Own.ofBlk (lo:=b5) (hi:=b5 + 1) (sz:=5) h5 (Nat.le_refl _) (Nat.lt_succ_self _) (by simp) (by simp [maxLen])) g hg;omega);replace h1:=h1.mod m5 (fun g hg=>by have:=Own.blk (Own.ofBlk (lo:=b5) (hi:=b5 + 1) (sz:=5) h5 (Nat.le_refl _) (Nat.lt_succ_self _) (by simp) (by simp [maxLen])) g hg;omega);replace h2:=h2.mod m5 (fun g hg=>by have:=Own.blk (Own.ofBlk (lo:=b5) (hi:=b5 + 1) (sz:=5) h5 (Nat.le_refl _) (Nat.lt_succ_self _) (by simp) (by simp [maxLen])) g hg;omega);replace h3:=h3.mod m5 (fun g hg=>by have:=Own.blk (Own.ofBlk (lo:=b5) (hi:=b5 + 1) (sz:=5) h5 (Nat.le_refl _) (Nat.lt_succ_self _) (by simp) (by simp [maxLen])) g hg;omega);replace hw2:=hw2.mod m5 (fun g hg=>by have:=Own.blk (Own.ofBlk (lo:=b5) (hi:=b5 + 1) (sz:=5) h5 (Nat.le_refl _) (Nat.lt_succ_self _) (by simp) (by simp [maxLen])) g hg;omega);replace hw4:=hw4.mod m5 (fun g hg=>by have:=Own.blk (Own.ofBlk (lo:=b5) (hi:=b5 + 1) (sz:=5) h5 (Nat.le_refl _) (Nat.lt_succ_self _) (by simp) (by simp [maxLen])) g hg;omega);replace hw5:=hw5.mod m5 (fun g hg=>by have:=Own.blk (Own.ofBlk (lo:=b5) (hi:=b5 + 1) (sz:=5) h5 (Nat.le_refl _) (Nat.lt_succ_self _) (by simp) (by simp [maxLen])) g hg;omega);replace hw6:=hw6.mod m5 (fun g hg=>by have:=Own.blk (Own.ofBlk (lo:=b5) (hi:=b5 + 1) (sz:=5) h5 (Nat.le_refl _) (Nat.lt_succ_self _) (by simp) (by simp [maxLen])) g hg;omega);replace hw7:=hw7.mod m5 (fun g hg=>by have:=Own.blk (Own.ofBlk (lo:=b5) (hi:=b5 + 1) (sz:=5) h5 (Nat.le_refl _) (Nat.lt_succ_self _) (by simp) (by simp [maxLen])) g hg;omega);replace hw8:=hw8.mod m5 (fun g hg=>by have:=Own.blk (Own.ofBlk (lo:=b5) (hi:=b5 + 1) (sz:=5) h5 (Nat.le_refl _) (Nat.lt_succ_self _) (by simp) (by simp [maxLen])) g hg;omega);replace ho2:=Own.modN ho2 m5 (fun g hg hv=>by have hN:=hn1 g hv;have hB:=Own.blk ho2 g hv;have:=Own.blk (Own.ofBlk (lo:=b5) (hi:=b5 + 1) (sz:=5) h5 (Nat.le_refl _) (Nat.lt_succ_self _) (by simp) (by simp [maxLen])) g hg;omega);replace hs1:=hs1.mod m5 (fun g hg=>by have:=Own.blk (Own.ofBlk (lo:=b5) (hi:=b5 + 1) (sz:=5) h5 (Nat.le_refl _) (Nat.lt_succ_self _) (by simp) (by simp [maxLen])) g hg;omega)
  have z15:=m5.size
  refine Qa (Qd Kc Z) Z (Y4 (cs':=[v1,o11,v2,o13,o14,o15,o16,o17]) Xi Z Z ho3.one h2 (Nat.le_of_ble_eq_true Z) Z (fun w16 m6 h2'=>?_))
  replace h2:=h2'
  replace E:=E.step m6 (fun g hg=>by cases hg;omega);replace h1:=h1.mod m6 (fun g hg=>by cases hg;omega);replace h3:=h3.mod m6 (fun g hg=>by cases hg;omega);replace hw2:=hw2.mod m6 (fun g hg=>by cases hg;omega);replace hw4:=hw4.mod m6 (fun g hg=>by cases hg;omega);replace hw5:=hw5.mod m6 (fun g hg=>by cases hg;omega);replace hw6:=hw6.mod m6 (fun g hg=>by cases hg;omega);replace hw7:=hw7.mod m6 (fun g hg=>by cases hg;omega);replace hw8:=hw8.mod m6 (fun g hg=>by cases hg;omega);replace ho2:=Own.modN ho2 m6 (fun g hg hv=>by have hN:=hn1 g hv;have hB:=Own.blk ho2 g hv;cases hg;omega);replace hs1:=hs1.mod m6 (fun g hg=>by cases hg;omega);replace ho3:=ho3.mod m6 (fun g hg=>by cases hg;omega)
  have z16:=m6.size
  refine Qf (Qh (Qi [true,false,true] Z Z (Qa (Qo Q7 Z h2.at Z) Z (Qs (cs':=[v1,o11,v2,o13,o14,o15,o16,o17]) Q7 Z Z Z (Qb ho2.one (Qb hw2.one (Qb ho3.one (Qb hw4.one (Qb hw5.one (Qb hw6.one (Qb hw7.one (Qb hw8.one Z)))))))) h3 (Nat.le_of_ble_eq_true Z) Z (fun w17 m7 h3'=>?_)))))
  replace h3:=h3'
  replace E:=E.step m7 (fun g hg=>by cases hg;omega);replace h1:=h1.mod m7 (fun g hg=>by cases hg;omega);replace h2:=h2.mod m7 (fun g hg=>by cases hg;omega);replace hw2:=hw2.mod m7 (fun g hg=>by cases hg;omega);replace hw4:=hw4.mod m7 (fun g hg=>by cases hg;omega);replace hw5:=hw5.mod m7 (fun g hg=>by cases hg;omega);replace hw6:=hw6.mod m7 (fun g hg=>by cases hg;omega);replace hw7:=hw7.mod m7 (fun g hg=>by cases hg;omega);replace hw8:=hw8.mod m7 (fun g hg=>by cases hg;omega);replace ho2:=Own.modN ho2 m7 (fun g hg hv=>by have hN:=hn1 g hv;have hB:=Own.blk ho2 g hv;cases hg;omega);replace hs1:=hs1.mod m7 (fun g hg=>by cases hg;omega);replace ho3:=ho3.mod m7 (fun g hg=>by cases hg;omega)
  have z17:=m7.size
  refine Qa (Qg Z) Z (Qf (Qx (Yo (l:=[.cell 4 33,.tmp 5]) (vs:=[.agg [v1,o11,v2,o13,o14,o15,o16,o17].toArray,.bool true]) Z ⟨.cell Z (Qu Q7 h3.at Z),.tmp Z,trivial⟩ Z E ?_)))
  rw [take_yes hc1 htl]
  exact ⟨_,Z,(Worker.mkO (⟨x.queue ++ [(x.inputs[0]'hi1)],x.staged,[] ++ (List.drop 1 x.inputs),x.cells,x.sums,x.black,x.caps,x.dones⟩ : Worker) ⟨⟨sp1.1.1,⟨(fun g hg he=>by have:=Own.blk ho2 g hg;have:=Own.blk ho3 g he;have:=hn1 g hg;omega),⟨sp1.1.2.2.1,⟨sp1.1.2.2.2.1,⟨sp1.1.2.2.2.2.1,⟨sp1.1.2.2.2.2.2.1,⟨sp1.1.2.2.2.2.2.2.1,trivial⟩⟩⟩⟩⟩⟩⟩,⟨⟨(Own.sep hw2 ho3 (by omega)),⟨sp1.2.1.2.1,⟨sp1.2.1.2.2.1,⟨sp1.2.1.2.2.2.1,⟨sp1.2.1.2.2.2.2.1,⟨sp1.2.1.2.2.2.2.2.1,trivial⟩⟩⟩⟩⟩⟩,⟨⟨(Own.sep ho3 hw4 (by omega)),⟨(Own.sep ho3 hw5 (by omega)),⟨(Own.sep ho3 hw6 (by omega)),⟨(Own.sep ho3 hw7 (by omega)),⟨(Own.sep ho3 hw8 (by omega)),trivial⟩⟩⟩⟩⟩,⟨⟨sp1.2.2.2.1.1,⟨sp1.2.2.2.1.2.1,⟨sp1.2.2.2.1.2.2.1,⟨sp1.2.2.2.1.2.2.2.1,trivial⟩⟩⟩⟩,⟨⟨sp1.2.2.2.2.1.1,⟨sp1.2.2.2.2.1.2.1,⟨sp1.2.2.2.2.1.2.2.1,trivial⟩⟩⟩,⟨⟨sp1.2.2.2.2.2.1.1,⟨sp1.2.2.2.2.2.1.2.1,trivial⟩⟩,⟨⟨sp1.2.2.2.2.2.2.1.1,trivial⟩,⟨trivial,trivial⟩⟩⟩⟩⟩⟩⟩⟩ (Own.widen ho2 (by omega) (by omega)) (Own.widen hw2 (by omega) (by omega)) (Own.widen ho3 (by omega) (by omega)) (Own.widen hw4 (by omega) (by omega)) (Own.widen hw5 (by omega) (by omega)) (Own.widen hw6 (by omega) (by omega)) (Own.widen hw7 (by omega) (by omega)) (Own.widen hw8 (by omega) (by omega)))⟩

set_option maxHeartbeats 4000000 in
set_option maxRecDepth 20000 in
theorem c_TakeInput (cg : List Value) (g : Graph) (cx : List Value) (x : Worker) (w : World) (hg : Dat.R w 0 w.heap.size cg g) (hx : Dat.R w 0 w.heap.size cx x) (hb : Q4 x ≤ 1048576) : Ct Tryz.prog 8 [.agg cg.toArray,.agg cx.toArray] w (fun v w'=>∃ c0,v = .tuple [.agg c0.toArray,.bool ((Yd g x).2)].toArray ∧ Own1.O w' w.heap.size w'.heap.size c0 ((Yd g x).1)):=by
 refine Yx Tryz.func8 Z Tryz.ntmps8 Z ?_
 obtain ⟨o1,rfl,hd1⟩:=Graph.op hg
 obtain ⟨o2,o3,o4,o5,o6,o7,o8,o9,rfl,hd2,hd3,hd4,hd5,hd6,hd7,hd8,hd9⟩:=Worker.op hx
 refine Yh [(0,.agg [o1,.int .i64 g.workers,.int .i64 g.cap].toArray),(1,.agg [o2,o3,o4,o5,o6,o7,o8,o9].toArray)] ⟨Z,Z,trivial⟩ ?_
 have E : Ext w w:=Ext.refl w
 refine Qh (Qi [false,false,false,true] Z Z (Y5 Z Z (fun b1 w1 e1 s1 h1=>?_)))
 have g_b1 : w.heap.size ≤ b1:=by have:=E.size;omega
 have y_b1:=h1.lt
 replace E:=E.trans e1
 have z1:=e1.size
 refine Y5 Z Z (fun b2 w2 e2 s2 h2=>?_)
 have g_b2 : w.heap.size ≤ b2:=by have:=E.size;omega
 have y_b2:=h2.lt
 replace E:=E.trans e2;replace h1:=h1.ext e2
 have z2:=e2.size
 refine Q6 Q7 Z (fun b3 w3 e3 s3 h3=>?_)
 have g_b3 : w.heap.size ≤ b3:=by have:=E.size;omega
 have y_b3:=h3.lt
 replace E:=E.trans e3;replace h1:=h1.ext e3;replace h2:=h2.ext e3
 have z3:=e3.size
 refine Qa (Qg Z) Z (Qf (Qh (Qi [true,false,false,false] Z Z (Qa (Qo Q7 Z h2.at Z) Z (Qv Tryz.call27 Z (c_copyWorker [o2,o3,o4,o5,o6,o7,o8,o9] x _ (Worker.mkR x (RdD.any (hd2.ext E)) (RdD.any (hd3.ext E)) (RdD.any (hd4.ext E)) (RdD.any (hd5.ext E)) (RdD.any (hd6.ext E)) (RdD.any (hd7.ext E)) (RdD.any (hd8.ext E)) (RdD.any (hd9.ext E))) (by first | omega | (simp only [Qt];omega) | (rw [Qt];done) | (simp only [Qt];done))) Z (fun _ w4 e4 ho1=>?_))))))
 obtain ⟨_,rfl,ho1⟩:=ho1
 have g_ho1 : w.heap.size ≤ w3.heap.size:=E.size
 replace E:=E.trans e4;replace h1:=h1.ext e4;replace h2:=h2.ext e4;replace h3:=h3.ext e4
 have z4:=e4.size
 obtain ⟨o10,o11,o12,o13,o14,o15,o16,o17,rfl,sp1,hw1,hw2,hw3,hw4,hw5,hw6,hw7,hw8⟩:=Worker.opO ho1
 refine Q6 Q7 Z (fun b4 w5 e5 s4 h4=>?_)
 have g_b4 : w.heap.size ≤ b4:=by have:=E.size;omega
 have y_b4:=h4.lt
 replace E:=E.trans e5;replace h1:=h1.ext e5;replace h2:=h2.ext e5;replace h3:=h3.ext e5;replace hw1:=hw1.ext e5;replace hw2:=hw2.ext e5;replace hw3:=hw3.ext e5;replace hw4:=hw4.ext e5;replace hw5:=hw5.ext e5;replace hw6:=hw6.ext e5;replace hw7:=hw7.ext e5;replace hw8:=hw8.ext e5
 have z5:=e5.size
 refine Qs (cs':=[o10,o11,o12,o13,o14,o15,o16,o17]) Q7 Z Z Z (Qb hw1.one (Qb hw2.one (Qb hw3.one (Qb hw4.one (Qb hw5.one (Qb hw6.one (Qb hw7.one (Qb hw8.one Z)))))))) h4 (Nat.le_of_ble_eq_true Z) Z (fun w6 m1 h4'=>?_)
 replace h4:=h4'
 replace E:=E.step m1 (fun g hg=>by cases hg;omega);replace h1:=h1.mod m1 (fun g hg=>by cases hg;omega);replace h2:=h2.mod m1 (fun g hg=>by cases hg;omega);replace h3:=h3.mod m1 (fun g hg=>by cases hg;omega);replace hw1:=hw1.mod m1 (fun g hg=>by cases hg;omega);replace hw2:=hw2.mod m1 (fun g hg=>by cases hg;omega);replace hw3:=hw3.mod m1 (fun g hg=>by cases hg;omega);replace hw4:=hw4.mod m1 (fun g hg=>by cases hg;omega);replace hw5:=hw5.mod m1 (fun g hg=>by cases hg;omega);replace hw6:=hw6.mod m1 (fun g hg=>by cases hg;omega);replace hw7:=hw7.mod m1 (fun g hg=>by cases hg;omega);replace hw8:=hw8.mod m1 (fun g hg=>by cases hg;omega)
 have z6:=m1.size
 refine Qf (Qh (Qh (Qi [true,false,true,true,true,true,false,true,true,true,true,true,true,true,true,true,true,true,true,true,true,true,true,true,true,true,true] Z Z (Qa (Qo Xt Z h1.at Z) Z (Qv Tryz.call28 Z (c_GraphOk [o1,.int .i64 g.workers,.int .i64 g.cap] g _ (Graph.mkR g (RdD.any (hd1.ext E)))) Z (fun _ w7 e6 hv=>?_))))))
 subst hv
 replace E:=E.trans e6;replace h1:=h1.ext e6;replace h2:=h2.ext e6;replace h3:=h3.ext e6;replace hw1:=hw1.ext e6;replace hw2:=hw2.ext e6;replace hw3:=hw3.ext e6;replace hw4:=hw4.ext e6;replace hw5:=hw5.ext e6;replace hw6:=hw6.ext e6;replace hw7:=hw7.ext e6;replace hw8:=hw8.ext e6;replace h4:=h4.ext e6
 have z7:=e6.size
 refine Qa (Y1 Z) Z (Qa (Qe Z) Z (Xg 23 [(0,.agg [o1,.int .i64 g.workers,.int .i64 g.cap].toArray),(1,.agg [o2,o3,o4,o5,o6,o7,o8,o9].toArray),(2,.pointer (some ⟨b1,0,none⟩)),(3,.pointer (some ⟨b2,0,none⟩)),(4,.pointer (some ⟨b3,0,none⟩)),(5,.bool false),(6,.pointer (some ⟨b4,0,none⟩)),(7,.agg [o2,o3,o4,o5,o6,o7,o8,o9].toArray),(8,.agg [o10,o11,o12,o13,o14,o15,o16,o17].toArray),(35,.bool (((((!(Yf g)) || (!(Yc g x))) || (decide (0 < ((x.staged.length : Nat) : Int)))) || (decide (0 < ((x.queue.length : Nat) : Int)))) || (((x.inputs.length : Nat) : Int) == 0)))] (fun w'=>Ext w w' ∧ w7.heap.size ≤ w'.heap.size ∧ Blk w' b1 ([o1,.int .i64 g.workers,.int .i64 g.cap]) ∧ Blk w' b2 ([o2,o3,o4,o5,o6,o7,o8,o9]) ∧ Blk w' b3 [.slice none 0 0,.slice none 0 0,.slice none 0 0,.slice none 0 0,.slice none 0 0,.slice none 0 0,.slice none 0 0,.slice none 0 0] ∧ Own w' w3.heap.size w4.heap.size 5 o10 (List.flatMap (Enc.enc (α:=Record)) x.queue) ∧ Own w' w3.heap.size w4.heap.size 5 o11 (List.flatMap (Enc.enc (α:=Record)) x.staged) ∧ Own w' w3.heap.size w4.heap.size 5 o12 (List.flatMap (Enc.enc (α:=Record)) x.inputs) ∧ Own w' w3.heap.size w4.heap.size 4 o13 (List.flatMap (Enc.enc (α:=Cell)) x.cells) ∧ Own w' w3.heap.size w4.heap.size 1 o14 (List.flatMap (Enc.enc (α:=Int)) x.sums) ∧ Own w' w3.heap.size w4.heap.size 1 o15 (List.flatMap (Enc.enc (α:=Bool)) x.black) ∧ Own w' w3.heap.size w4.heap.size 1 o16 (List.flatMap (Enc.enc (α:=Bool)) x.caps) ∧ Own w' w3.heap.size w4.heap.size 2 o17 (List.flatMap (Enc.enc (α:=Done)) x.dones) ∧ Blk w' b4 [o10,o11,o12,o13,o14,o15,o16,o17]) ?_ ?_))
 ·refine Ym (gd:=12) Z Z (fun hg1=>?_) (fun hg1=>?_)
  ·refine Qc Z Z Z Z (Qc Z Z Z Z ?_)
   refine Q1 Z Z Z Z ?_
   refine Qc Z Z Z Z (Qa (Qr Z Z) Z (Qa (Qe Z) Z (Qc Z Z Z Z (Qc Z Z Z Z (Qc Z Z Z Z (Qc Z Z Z Z (Qa (Qr Z Z) Z (Qa (Qe Z) Z (Qc Z Z Z Z (Qc Z Z Z Z (Qc Z Z Z Z (Qc Z Z Z Z (Qa (Qr Z Z) Z (Qa (Qe Z) Z (Qc Z Z Z Z (Qc Z Z Z Z (Qc Z Z Z Z (Qc Z Z Z Z (Qa (Qr Z Z) Z (Ql ⟨Z,Z,Z,Z,Z,Z,Z,Z,Z,congrArg (fun b=>some (Value.bool b)) (show true = (((((!(Yf g)) || (!(Yc g x))) || (decide (0 < ((x.staged.length : Nat) : Int)))) || (decide (0 < ((x.queue.length : Nat) : Int)))) || (((x.inputs.length : Nat) : Int) == 0)) by first | (rw [hg1] <;> rfl) | (simp [hg1];done) | (simp only [Qp] <;> simp)),trivial⟩ ⟨E,(by omega),h1,h2,h3,hw1,hw2,hw3,hw4,hw5,hw6,hw7,hw8,h4⟩))))))))))))))))))))
  ·refine Qk Z Z (Qo Xt Z h1.at Z) Z (Qk Z Z (Qo Q7 Z h2.at Z) Z ?_)
   refine Y3 Z Z ?_
   refine Qv Tryz.call29 Z (c_WorkerOk [o1,.int .i64 g.workers,.int .i64 g.cap] g [o2,o3,o4,o5,o6,o7,o8,o9] x _ (Graph.mkR g (RdD.any (hd1.ext E))) (Worker.mkR x (RdD.any (hd2.ext E)) (RdD.any (hd3.ext E)) (RdD.any (hd4.ext E)) (RdD.any (hd5.ext E)) (RdD.any (hd6.ext E)) (RdD.any (hd7.ext E)) (RdD.any (hd8.ext E)) (RdD.any (hd9.ext E)))) Z (fun _ w9 e7 hv=>?_)
   subst hv
   replace E:=E.trans e7;replace h1:=h1.ext e7;replace h2:=h2.ext e7;replace h3:=h3.ext e7;replace hw1:=hw1.ext e7;replace hw2:=hw2.ext e7;replace hw3:=hw3.ext e7;replace hw4:=hw4.ext e7;replace hw5:=hw5.ext e7;replace hw6:=hw6.ext e7;replace hw7:=hw7.ext e7;replace hw8:=hw8.ext e7;replace h4:=h4.ext e7
   have z8:=e7.size
   refine Qk Z Z (Y1 Z) Z (Qa (Qq Z Z) Z (Qa (Qe Z) Z ?_))
   refine Ym (gd:=18) Z Z (fun hg2=>?_) (fun hg2=>?_)
   ·refine Qc Z Z Z Z (Qc Z Z Z Z (Qc Z Z Z Z (Qc Z Z Z Z (Qa (Qr Z Z) Z (Qa (Qe Z) Z (Qc Z Z Z Z (Qc Z Z Z Z (Qc Z Z Z Z (Qc Z Z Z Z (Qa (Qr Z Z) Z (Qa (Qe Z) Z (Qc Z Z Z Z (Qc Z Z Z Z (Qc Z Z Z Z (Qc Z Z Z Z (Qa (Qr Z Z) Z (Ql ⟨Z,Z,Z,Z,Z,Z,Z,Z,Z,congrArg (fun b=>some (Value.bool b)) (show true = (((((!(Yf g)) || (!(Yc g x))) || (decide (0 < ((x.staged.length : Nat) : Int)))) || (decide (0 < ((x.queue.length : Nat) : Int)))) || (((x.inputs.length : Nat) : Int) == 0)) by first | (rw [hg1,hg2] <;> rfl) | (simp [hg1,hg2];done) | (simp only [Qp] <;> simp)),trivial⟩ ⟨E,(by omega),h1,h2,h3,hw1,hw2,hw3,hw4,hw5,hw6,hw7,hw8,h4⟩)))))))))))))))))
   ·refine Qk Z Z (Qd K7 Z) Z (Qk Z Z (Qj Xi Z (h2.one 1 Z)) Z (Qk Z Z (Yg Tryz.underlying27 Z (hd3.ext E).len) Z (Qk Z Z (Un Z Z) Z (Qa (Qq Z Z) Z (Qa (Qe Z) Z ?_)))))
    refine Ym (gd:=24) Z Z (fun hg3=>?_) (fun hg3=>?_)
    ·have hg3n : x.staged.length > 0:=by first | (have h:=of_decide_eq_true hg3;omega) | (have h:=hg3;simp at h;omega)
     refine Qc Z Z Z Z (Qc Z Z Z Z (Qc Z Z Z Z (Qc Z Z Z Z (Qa (Qr Z Z) Z (Qa (Qe Z) Z (Qc Z Z Z Z (Qc Z Z Z Z (Qc Z Z Z Z (Qc Z Z Z Z (Qa (Qr Z Z) Z (Ql ⟨Z,Z,Z,Z,Z,Z,Z,Z,Z,congrArg (fun b=>some (Value.bool b)) (show true = (((((!(Yf g)) || (!(Yc g x))) || (decide (0 < ((x.staged.length : Nat) : Int)))) || (decide (0 < ((x.queue.length : Nat) : Int)))) || (((x.inputs.length : Nat) : Int) == 0)) by first | (rw [hg1,hg2,hg3] <;> rfl) | (simp [hg1,hg2,hg3];done) | (simp only [Qp] <;> simp)),trivial⟩ ⟨E,(by omega),h1,h2,h3,hw1,hw2,hw3,hw4,hw5,hw6,hw7,hw8,h4⟩)))))))))))
    ·have hg3n : ¬ x.staged.length > 0:=by first | (have h:=of_decide_eq_false hg3;omega) | (have h:=hg3;simp at h;omega)
     refine Qk Z Z (Qd Xj Z) Z (Qk Z Z (Qj Xi Z (h2.one 0 Z)) Z (Qk Z Z (Yg Tryz.underlying27 Z (hd2.ext E).len) Z (Qk Z Z (Un Z Z) Z (Qa (Qq Z Z) Z (Qa (Qe Z) Z ?_)))))
     refine Ym (gd:=30) Z Z (fun hg4=>?_) (fun hg4=>?_)
     ·have hg4n : x.queue.length > 0:=by first | (have h:=of_decide_eq_true hg4;omega) | (have h:=hg4;simp at h;omega)
      refine Qc Z Z Z Z (Qc Z Z Z Z (Qc Z Z Z Z (Qc Z Z Z Z (Qa (Qr Z Z) Z (Ql ⟨Z,Z,Z,Z,Z,Z,Z,Z,Z,congrArg (fun b=>some (Value.bool b)) (show true = (((((!(Yf g)) || (!(Yc g x))) || (decide (0 < ((x.staged.length : Nat) : Int)))) || (decide (0 < ((x.queue.length : Nat) : Int)))) || (((x.inputs.length : Nat) : Int) == 0)) by first | (rw [hg1,hg2,hg3,hg4] <;> rfl) | (simp [hg1,hg2,hg3,hg4];done) | (simp only [Qp] <;> simp)),trivial⟩ ⟨E,(by omega),h1,h2,h3,hw1,hw2,hw3,hw4,hw5,hw6,hw7,hw8,h4⟩)))))
     ·have hg4n : ¬ x.queue.length > 0:=by first | (have h:=of_decide_eq_false hg4;omega) | (have h:=hg4;simp at h;omega)
      refine Qk Z Z (Qd Kc Z) Z (Qk Z Z (Qj Xi Z (h2.one 2 Z)) Z (Qk Z Z (Yg Tryz.underlying27 Z (hd4.ext E).len) Z (Qk Z Z (Yq Z Z) Z (Qa (Qq Z Z) Z (Ql ⟨Z,Z,Z,Z,Z,Z,Z,Z,Z,congrArg (fun b=>some (Value.bool b)) (show (((x.inputs.length : Nat) : Int) == 0) = (((((!(Yf g)) || (!(Yc g x))) || (decide (0 < ((x.staged.length : Nat) : Int)))) || (decide (0 < ((x.queue.length : Nat) : Int)))) || (((x.inputs.length : Nat) : Int) == 0)) by first | (rw [hg1,hg2,hg3,hg4] <;> rfl) | (simp [hg1,hg2,hg3,hg4];done) | (simp only [Qp] <;> simp)),trivial⟩ ⟨E,(by omega),h1,h2,h3,hw1,hw2,hw3,hw4,hw5,hw6,hw7,hw8,h4⟩)))))
 clear E h1 h2 h3 hw1 hw2 hw3 hw4 hw5 hw6 hw7 hw8 h4
 rintro w8 ⟨E,z9,h1,h2,h3,hw1,hw2,hw3,hw4,hw5,hw6,hw7,hw8,h4⟩
 refine Qf (Qw Z (fun hc1=>?_) (fun hc1=>?_))
 ·refine Qh (Qi [true,false,true] Z Z (Qa (Qo Q7 Z h4.at Z) Z (Qs (cs':=[o10,o11,o12,o13,o14,o15,o16,o17]) Q7 Z Z Z (Qb hw1.one (Qb hw2.one (Qb hw3.one (Qb hw4.one (Qb hw5.one (Qb hw6.one (Qb hw7.one (Qb hw8.one Z)))))))) h3 (Nat.le_of_ble_eq_true Z) Z (fun w10 m2 h3'=>?_))))
  replace h3:=h3'
  replace E:=E.step m2 (fun g hg=>by cases hg;omega);replace h1:=h1.mod m2 (fun g hg=>by cases hg;omega);replace h2:=h2.mod m2 (fun g hg=>by cases hg;omega);replace hw1:=hw1.mod m2 (fun g hg=>by cases hg;omega);replace hw2:=hw2.mod m2 (fun g hg=>by cases hg;omega);replace hw3:=hw3.mod m2 (fun g hg=>by cases hg;omega);replace hw4:=hw4.mod m2 (fun g hg=>by cases hg;omega);replace hw5:=hw5.mod m2 (fun g hg=>by cases hg;omega);replace hw6:=hw6.mod m2 (fun g hg=>by cases hg;omega);replace hw7:=hw7.mod m2 (fun g hg=>by cases hg;omega);replace hw8:=hw8.mod m2 (fun g hg=>by cases hg;omega);replace h4:=h4.mod m2 (fun g hg=>by cases hg;omega)
  have z10:=m2.size
  refine Qa (Qg Z) Z (Qf (Qx (Yo (l:=[.cell 4 33,.tmp 5]) (vs:=[.agg [o10,o11,o12,o13,o14,o15,o16,o17].toArray,.bool false]) Z ⟨.cell Z (Qu Q7 h3.at Z),.tmp Z,trivial⟩ Z E ?_)))
  rw [take_no hc1]
  exact ⟨_,Z,(Worker.mkO x sp1 (Own.widen hw1 (by omega) (by omega)) (Own.widen hw2 (by omega) (by omega)) (Own.widen hw3 (by omega) (by omega)) (Own.widen hw4 (by omega) (by omega)) (Own.widen hw5 (by omega) (by omega)) (Own.widen hw6 (by omega) (by omega)) (Own.widen hw7 (by omega) (by omega)) (Own.widen hw8 (by omega) (by omega)))⟩
 ·have htl:=take_lt hc1
  refine Qy (Qh (T7 Xo [7] [(0,true),(1,true),(2,true),(3,true),(4,true),(5,true),(6,false)] [(7,false),(8,true),(9,false)] (by decide +kernel) Z Z (fun w11 e8=>?_)))
  replace E:=E.trans e8;replace h1:=h1.ext e8;replace h2:=h2.ext e8;replace h3:=h3.ext e8;replace hw1:=hw1.ext e8;replace hw2:=hw2.ext e8;replace hw3:=hw3.ext e8;replace hw4:=hw4.ext e8;replace hw5:=hw5.ext e8;replace hw6:=hw6.ext e8;replace hw7:=hw7.ext e8;replace hw8:=hw8.ext e8;replace h4:=h4.ext e8
  have z11:=e8.size
  refine Qa (Qd Xj Z) Z (Qa (Qj Xi Z (h4.one 0 Z)) Z (Qa (Qd Kc Z) Z (Qa (Qj Xi Z (h2.one 2 Z)) Z ?_)))
  have hi1 : 0 < x.inputs.length:=(by first | assumption | omega | (simp only [List.length_set];first | assumption | omega) | (simp only [List.getElem_set_self,List.length_set];first | assumption | omega) | (simp only [Xc,Yp,List.length_set];first | assumption | omega) | (simp;done))
  refine Qa (Ye (i:=0) X3 Z Z (hd4.rd.ext E) hi1) Z (Qa (Qo Xh Z ((hd4.rd.ext E).get hi1) Z) Z (Q8 (vs:=[.agg (Enc.enc (x.inputs[0]'hi1)).toArray]) (css:=[[.int .i64 ((x.inputs[0]'hi1).op),.int .i64 (((x.inputs[0]'hi1).stamp).epoch),.int .i64 (((x.inputs[0]'hi1).stamp).turn),.int .i64 ((x.inputs[0]'hi1).key),.int .i64 ((x.inputs[0]'hi1).val)]]) X3 Z Z ⟨⟨Z,Z⟩,trivial⟩ Z Z (fun b5 w12 e9 s5 h5=>?_)))
  replace h5 : Blk w12 b5 [.int .i64 ((x.inputs[0]'hi1).op),.int .i64 (((x.inputs[0]'hi1).stamp).epoch),.int .i64 (((x.inputs[0]'hi1).stamp).turn),.int .i64 ((x.inputs[0]'hi1).key),.int .i64 ((x.inputs[0]'hi1).val)]:=h5
  have g_b5 : w.heap.size ≤ b5:=by have:=E.size;omega
  have y_b5:=h5.lt
  replace E:=E.trans e9;replace h1:=h1.ext e9;replace h2:=h2.ext e9;replace h3:=h3.ext e9;replace hw1:=hw1.ext e9;replace hw2:=hw2.ext e9;replace hw3:=hw3.ext e9;replace hw4:=hw4.ext e9;replace hw5:=hw5.ext e9;replace hw6:=hw6.ext e9;replace hw7:=hw7.ext e9;replace hw8:=hw8.ext e9;replace h4:=h4.ext e9
  have z12:=e9.size
  refine Hq ?_
  refine J2_X Z ?_
  refine Kd X3 Z Z hw1 (Src.ofBlk h5 Z) Z (by unfold Q4 at hb;simp only [Ya,List.length_nil,List.length_cons,List.length_drop];simp only [Enc.sz];omega) (by decide) (by omega) (by omega) Z Z (fun v1 w13 m3 ho2 hb1=>?_)
  have hn1 : ∀ g,Value.ownBlock v1 = some g → g < w4.heap.size ∨ w12.heap.size ≤ g:=fun g hg=>(hb1 g hg).elim (fun h=>.inl (by have:=Own.blk hw1 g h;omega)) (fun h=>.inr h)
  have sq1:=sp1
  replace sp1:=SepL.set hb1 0 rfl sp1 ⟨(Own.lt hw1),(Own.lt hw2),(Own.lt hw3),(Own.lt hw4),(Own.lt hw5),(Own.lt hw6),(Own.lt hw7),(Own.lt hw8),trivial⟩
  replace sp1 : SepL [v1,o11,o12,o13,o14,o15,o16,o17]:=sp1
  replace E:=E.step m3 (fun g hg=>by have:=Own.blk hw1 g hg;omega);replace h1:=h1.mod m3 (fun g hg=>by have:=Own.blk hw1 g hg;omega);replace h2:=h2.mod m3 (fun g hg=>by have:=Own.blk hw1 g hg;omega);replace h3:=h3.mod m3 (fun g hg=>by have:=Own.blk hw1 g hg;omega);replace hw2:=Own.modS hw2 m3 sq1.1.1;replace hw3:=Own.modS hw3 m3 sq1.1.2.1;replace hw4:=Own.modS hw4 m3 sq1.1.2.2.1;replace hw5:=Own.modS hw5 m3 sq1.1.2.2.2.1;replace hw6:=Own.modS hw6 m3 sq1.1.2.2.2.2.1;replace hw7:=Own.modS hw7 m3 sq1.1.2.2.2.2.2.1;replace hw8:=Own.modS hw8 m3 sq1.1.2.2.2.2.2.2.1;replace h4:=h4.mod m3 (fun g hg=>by have:=Own.blk hw1 g hg;omega)
  have z13:=m3.size
  replace ho2 : Own w13 w3.heap.size w13.heap.size 5 v1 (List.flatMap (Enc.enc (α:=Record)) (x.queue ++ [(x.inputs[0]'hi1)])):=by rw [List.flatMap_append];exact ho2
  refine Af ?_
  refine Qa (Qd Xj Z) Z (Y4 (cs':=[v1,o11,o12,o13,o14,o15,o16,o17]) Xi Z Z ho2.one h4 (Nat.le_of_ble_eq_true Z) Z (fun w14 m4 h4'=>?_))
  replace h4:=h4'
  replace E:=E.step m4 (fun g hg=>by cases hg;omega);replace h1:=h1.mod m4 (fun g hg=>by cases hg;omega);replace h2:=h2.mod m4 (fun g hg=>by cases hg;omega);replace h3:=h3.mod m4 (fun g hg=>by cases hg;omega);replace hw2:=hw2.mod m4 (fun g hg=>by cases hg;omega);replace hw3:=hw3.mod m4 (fun g hg=>by cases hg;omega);replace hw4:=hw4.mod m4 (fun g hg=>by cases hg;omega);replace hw5:=hw5.mod m4 (fun g hg=>by cases hg;omega);replace hw6:=hw6.mod m4 (fun g hg=>by cases hg;omega);replace hw7:=hw7.mod m4 (fun g hg=>by cases hg;omega);replace hw8:=hw8.mod m4 (fun g hg=>by cases hg;omega);replace ho2:=Own.modN ho2 m4 (fun g hg hv=>by have hN:=hn1 g hv;have hB:=Own.blk ho2 g hv;cases hg;omega)
  have z14:=m4.size
  refine Qf (Qh (Qi [true,true,true,true,false] Z Z (Qa (Qd Kc Z) Z (Qa (Qj Xi Z (h4.one 2 Z)) Z ?_))))
  have hk1 : 1 ≤ x.inputs.length:=by first | assumption | omega
  have hs1:=Own.slFromE (α:=Record) hw3 hk1
  replace hs1 : Own w14 w3.heap.size w4.heap.size 5 (slFrom o12 1 5) (List.flatMap (Enc.enc (α:=Record)) (List.drop 1 x.inputs)):=hs1
  have hb2 : Become w14 o12 (slFrom o12 1 5):=fun g hg=>.inl (by rwa [Vj] at hg)
  replace sp1:=SepL.set hb2 2 rfl sp1 ⟨(Own.lt ho2),(Own.lt hw2),(Own.lt hw3),(Own.lt hw4),(Own.lt hw5),(Own.lt hw6),(Own.lt hw7),(Own.lt hw8),trivial⟩
  replace sp1 : SepL [v1,o11,slFrom o12 1 5,o13,o14,o15,o16,o17]:=sp1
  refine Qa (Kt X3 Z Z (Own.roomE (α:=Record) hw3) hk1) Z (Qa (Qd Kc Z) Z (Y4 (cs':=[v1,o11,slFrom o12 1 5,o13,o14,o15,o16,o17]) Xi Z Z hs1.one h4 (Nat.le_of_ble_eq_true Z) Z (fun w15 m5 h4'=>?_)))
  replace h4:=h4'
  replace E:=E.step m5 (fun g hg=>by cases hg;omega);replace h1:=h1.mod m5 (fun g hg=>by cases hg;omega);replace h2:=h2.mod m5 (fun g hg=>by cases hg;omega);replace h3:=h3.mod m5 (fun g hg=>by cases hg;omega);replace hw2:=hw2.mod m5 (fun g hg=>by cases hg;omega);replace hw4:=hw4.mod m5 (fun g hg=>by cases hg;omega);replace hw5:=hw5.mod m5 (fun g hg=>by cases hg;omega);replace hw6:=hw6.mod m5 (fun g hg=>by cases hg;omega);replace hw7:=hw7.mod m5 (fun g hg=>by cases hg;omega);replace hw8:=hw8.mod m5 (fun g hg=>by cases hg;omega);replace ho2:=Own.modN ho2 m5 (fun g hg hv=>by have hN:=hn1 g hv;have hB:=Own.blk ho2 g hv;cases hg;omega);replace hs1:=hs1.mod m5 (fun g hg=>by cases hg;omega)
  have z15:=m5.size
  refine Qf (Qh (Qi [true,false,true] Z Z (Qa (Qo Q7 Z h4.at Z) Z (Qs (cs':=[v1,o11,slFrom o12 1 5,o13,o14,o15,o16,o17]) Q7 Z Z Z (Qb ho2.one (Qb hw2.one (Qb hs1.one (Qb hw4.one (Qb hw5.one (Qb hw6.one (Qb hw7.one (Qb hw8.one Z)))))))) h3 (Nat.le_of_ble_eq_true Z) Z (fun w16 m6 h3'=>?_)))))
  replace h3:=h3'
  replace E:=E.step m6 (fun g hg=>by cases hg;omega);replace h1:=h1.mod m6 (fun g hg=>by cases hg;omega);replace h2:=h2.mod m6 (fun g hg=>by cases hg;omega);replace hw2:=hw2.mod m6 (fun g hg=>by cases hg;omega);replace hw4:=hw4.mod m6 (fun g hg=>by cases hg;omega);replace hw5:=hw5.mod m6 (fun g hg=>by cases hg;omega);replace hw6:=hw6.mod m6 (fun g hg=>by cases hg;omega);replace hw7:=hw7.mod m6 (fun g hg=>by cases hg;omega);replace hw8:=hw8.mod m6 (fun g hg=>by cases hg;omega);replace h4:=h4.mod m6 (fun g hg=>by cases hg;omega);replace ho2:=Own.modN ho2 m6 (fun g hg hv=>by have hN:=hn1 g hv;have hB:=Own.blk ho2 g hv;cases hg;omega);replace hs1:=hs1.mod m6 (fun g hg=>by cases hg;omega)
  have z16:=m6.size
  refine Qa (Qg Z) Z (Qf (Qx (Yo (l:=[.cell 4 33,.tmp 5]) (vs:=[.agg [v1,o11,slFrom o12 1 5,o13,o14,o15,o16,o17].toArray,.bool true]) Z ⟨.cell Z (Qu Q7 h3.at Z),.tmp Z,trivial⟩ Z E ?_)))
  rw [take_yes hc1 htl]
  exact ⟨_,Z,(Worker.mkO (⟨x.queue ++ [(x.inputs[0]'hi1)],x.staged,List.drop 1 x.inputs,x.cells,x.sums,x.black,x.caps,x.dones⟩ : Worker) sp1 (Own.widen ho2 (by omega) (by omega)) (Own.widen hw2 (by omega) (by omega)) (Own.widen hs1 (by omega) (by omega)) (Own.widen hw4 (by omega) (by omega)) (Own.widen hw5 (by omega) (by omega)) (Own.widen hw6 (by omega) (by omega)) (Own.widen hw7 (by omega) (by omega)) (Own.widen hw8 (by omega) (by omega)))⟩

set_option maxRecDepth 20000 in
theorem s_Remembers (k : Int) (w : World)  : Ct Tryz.prog 66 [.int .i64 k] w (fun v _=>v = .bool (((k == 5) || (k == 6)) || (k == 8))):=by
 refine Yx Tryz.func66 Z Tryz.ntmps66 Z ?_
 refine Yh [(0,.int .i64 k)] ⟨Z,trivial⟩ ?_
 have E : Ext w w:=Ext.refl w
 refine Qh (Qi [true] Z Z (Qa (Qg Z) Z (Qf (Qh (Qi [true,true,true,true,true,true,true,true,true,true,true] Z Z (Qa (Qe Z) Z (Qa (Yq Z Z) Z (Qa (Qe Z) Z (Xg 7 [(0,.int .i64 k),(2,.bool false),(12,.bool (((k == 5) || (k == 6)) || (k == 8)))] (fun w'=>w = w') ?_ ?_)))))))))
 ·refine Ym (gd:=5) Z Z (fun hg1=>?_) (fun hg1=>?_)
  ·refine Qc Z Z Z Z (Qc Z Z Z Z (Qa (Qr Z Z) Z (Qa (Qe Z) Z (Qc Z Z Z Z (Qc Z Z Z Z (Qa (Qr Z Z) Z (Ql ⟨Z,Z,congrArg (fun b=>some (Value.bool b)) (show true = (((k == 5) || (k == 6)) || (k == 8)) by first | (rw [hg1] <;> rfl) | (simp [hg1];done) | (simp only [Qp] <;> simp)),trivial⟩ Z)))))))
  ·refine Qk Z Z (Qe Z) Z (Qk Z Z (Yq Z Z) Z (Qa (Qq Z Z) Z (Qa (Qe Z) Z ?_)))
   refine Ym (gd:=9) Z Z (fun hg2=>?_) (fun hg2=>?_)
   ·refine Qc Z Z Z Z (Qc Z Z Z Z (Qa (Qr Z Z) Z (Ql ⟨Z,Z,congrArg (fun b=>some (Value.bool b)) (show true = (((k == 5) || (k == 6)) || (k == 8)) by first | (rw [hg1,hg2] <;> rfl) | (simp [hg1,hg2];done) | (simp only [Qp] <;> simp)),trivial⟩ Z)))
   ·refine Qk Z Z (Qe Z) Z (Qk Z Z (Yq Z Z) Z (Qa (Qq Z Z) Z (Ql ⟨Z,Z,congrArg (fun b=>some (Value.bool b)) (show (k == 8) = (((k == 5) || (k == 6)) || (k == 8)) by first | (rw [hg1,hg2] <;> rfl) | (simp [hg1,hg2];done) | (simp only [Qp] <;> simp)),trivial⟩ Z)))
 rintro _ rfl
 refine Qa (Qg Z) Z (Qf (Qx (Q0 Z Z E ?_)))
 rfl

set_option maxHeartbeats 4000000 in
set_option maxRecDepth 20000 in
theorem c_StepOp (cg : List Value) (g : Graph) (vcs : Value) (cs : List Cell) (r : Record) (w : World) (hg : Dat.R w 0 w.heap.size cg g) (hcs : RdS w vcs cs) (hb : cs.length ≤ 4194304) : Ct Tryz.prog 30 [.agg cg.toArray,vcs,.agg (Enc.enc r).toArray] w (fun v w'=>∃ u0 u1,v = .tuple [u0,u1,.bool ((Xw g cs r).2.2)].toArray ∧ Own w' w.heap.size w'.heap.size 4 u0 (List.flatMap (Enc.enc (α:=Cell)) ((Xw g cs r).1)) ∧ Own w' w.heap.size w'.heap.size 5 u1 (List.flatMap (Enc.enc (α:=Record)) ((Xw g cs r).2.1)) ∧ SepL [u0,u1]):=by
 refine Yx Tryz.func30 Z Tryz.ntmps30 Z ?_
 obtain ⟨o1,rfl,hd1⟩:=Graph.op hg
 refine Yh [(0,.agg [o1,.int .i64 g.workers,.int .i64 g.cap].toArray),(1,vcs),(2,.agg (Enc.enc r).toArray)] ⟨Z,Z,Z,trivial⟩ ?_
 have E : Ext w w:=Ext.refl w
 refine Qh (Qi [false,false,true,true,true] Z Z (Y5 Z Z (fun b1 w1 e1 s1 h1=>?_)))
 have g_b1 : w.heap.size ≤ b1:=by have:=E.size;omega
 have y_b1:=h1.lt
 replace E:=E.trans e1
 have z1:=e1.size
 refine Y5 Z Z (fun b2 w2 e2 s2 h2=>?_)
 have g_b2 : w.heap.size ≤ b2:=by have:=E.size;omega
 have y_b2:=h2.lt
 replace E:=E.trans e2;replace h1:=h1.ext e2
 have z2:=e2.size
 refine Qa (Qg Z) Z (Qa (Qg Z) Z (Qa (Qg Z) Z (Qf (Qh (Qh (Qi [true,false,true,true,true,false,true,true,true,true,true,true,false,true,true] Z Z (Qa (Qo Xt Z h1.at Z) Z (Qv Tryz.call28 Z (c_GraphOk [o1,.int .i64 g.workers,.int .i64 g.cap] g _ (Graph.mkR g (RdD.any (hd1.ext E)))) Z (fun _ w3 e3 hv=>?_)))))))))
 subst hv
 replace E:=E.trans e3;replace h1:=h1.ext e3;replace h2:=h2.ext e3
 have z3:=e3.size
 refine Qa (Y1 Z) Z (Qa (Qe Z) Z (Xg 11 [(0,.agg [o1,.int .i64 g.workers,.int .i64 g.cap].toArray),(1,vcs),(2,.agg (Enc.enc r).toArray),(3,.pointer (some ⟨b1,0,none⟩)),(5,.pointer (some ⟨b2,0,none⟩)),(6,.slice none 0 0),(7,.slice none 0 0),(8,.bool false),(33,.bool (((!(Yf g)) || (!(Yn r))) || (!(Xd g r.op))))] (fun w'=>Ext w w' ∧ w3.heap.size ≤ w'.heap.size ∧ Blk w' b1 ([o1,.int .i64 g.workers,.int .i64 g.cap]) ∧ Blk w' b2 (Enc.enc r)) ?_ ?_))
 ·refine Ym (gd:=22) Z Z (fun hg1=>?_) (fun hg1=>?_)
  ·refine Qc Z Z Z Z ?_
   refine Q1 Z Z Z Z ?_
   refine Qc Z Z Z Z (Qa (Qr Z Z) Z (Qa (Qe Z) Z (Qc Z Z Z Z (Qc Z Z Z Z (Qc Z Z Z Z ?_)))))
   refine Q1 Z Z Z Z ?_
   refine Qc Z Z Z Z (Qa (Qr Z Z) Z (Ql ⟨Z,Z,Z,Z,Z,Z,Z,Z,congrArg (fun b=>some (Value.bool b)) (show true = (((!(Yf g)) || (!(Yn r))) || (!(Xd g r.op))) by first | (rw [hg1] <;> rfl) | (simp [hg1];done) | (simp only [Qp] <;> simp)),trivial⟩ ⟨E,(by omega),h1,h2⟩))
  ·refine Qk Z Z (Qo Xh Z h2.at Z) Z ?_
   refine Y3 Z Z ?_
   refine Qv Tryz.call57 Z (c_RecordOk r _ ) Z (fun _ w5 e4 hv=>?_)
   subst hv
   replace E:=E.trans e4;replace h1:=h1.ext e4;replace h2:=h2.ext e4
   have z4:=e4.size
   refine Qk Z Z (Y1 Z) Z (Qa (Qq Z Z) Z (Qa (Qe Z) Z ?_))
   refine Ym (gd:=27) Z Z (fun hg2=>?_) (fun hg2=>?_)
   ·refine Qc Z Z Z Z (Qc Z Z Z Z (Qc Z Z Z Z ?_))
    refine Q1 Z Z Z Z ?_
    refine Qc Z Z Z Z (Qa (Qr Z Z) Z (Ql ⟨Z,Z,Z,Z,Z,Z,Z,Z,congrArg (fun b=>some (Value.bool b)) (show true = (((!(Yf g)) || (!(Yn r))) || (!(Xd g r.op))) by first | (rw [hg1,hg2] <;> rfl) | (simp [hg1,hg2];done) | (simp only [Qp] <;> simp)),trivial⟩ ⟨E,(by omega),h1,h2⟩))
   ·refine Qk Z Z (Qo Xt Z h1.at Z) Z (Qk Z Z (Qd Uv Z) Z (Qk Z Z (Qj Y6 Z (h2.one 0 Z)) Z ?_))
    refine Y3 Z Z ?_
    refine Qv Tryz.call58 Z (c_isNode [o1,.int .i64 g.workers,.int .i64 g.cap] g r.op _ (Graph.mkR g (RdD.any (hd1.ext E)))) Z (fun _ w6 e5 hv=>?_)
    subst hv
    replace E:=E.trans e5;replace h1:=h1.ext e5;replace h2:=h2.ext e5
    have z5:=e5.size
    refine Qk Z Z (Y1 Z) Z (Qa (Qq Z Z) Z (Ql ⟨Z,Z,Z,Z,Z,Z,Z,Z,congrArg (fun b=>some (Value.bool b)) (show (!(Xd g r.op)) = (((!(Yf g)) || (!(Yn r))) || (!(Xd g r.op))) by first | (rw [hg1,hg2] <;> rfl) | (simp [hg1,hg2];done) | (simp only [Qp] <;> simp)),trivial⟩ ⟨E,(by omega),h1,h2⟩))
 clear E h1 h2
 rintro w4 ⟨E,z6,h1,h2⟩
 refine Qf (Qw Z (fun hc1=>?_) (fun hc1=>?_))
 ·refine Qh (Qi [true,false,true,true,true] Z Z (Qa (Qe Z) Z (Qv Tryz.call52 Z (c_copyCells vcs cs _ (hcs.ext E) (by first | omega | (simp only [Qt];omega) | (rw [Qt];done) | (simp only [Qt];done))) Z (fun v1 w7 e6 ho1=>?_))))
  have g_ho1 : w.heap.size ≤ w4.heap.size:=E.size
  replace E:=E.trans e6;replace h1:=h1.ext e6;replace h2:=h2.ext e6
  have z7:=e6.size
  refine Qa (Qg Z) Z (Qa (Qg Z) Z (Qa (Qg Z) Z (Qf (Qx (Yo (l:=[.tmp 6,.tmp 7,.tmp 8]) (vs:=[v1,.slice none 0 0,.bool false]) Z ⟨.tmp Z,.tmp Z,.tmp Z,trivial⟩ Z E ?_)))))
  rw [st_0 hc1]
  exact ⟨_,_,Z,Own.fin ho1 (by omega) (by omega) (by first | rfl | (simp only [List.nil_append];done)),Own.finNil Z,⟨⟨(Sep.nilR _),trivial⟩,⟨trivial,trivial⟩⟩⟩
 ·have hq:=st_of hc1
  have hop:=Ue hq.2
  have hx : (g.nodes[Int.toNat r.op]'hop.2.2) = Km g r:=(Ka hop.2.2).symm
  have hol : (g.nodes[Int.toNat r.op]'hop.2.2).outs.length ≤ 2:=hx ▸ Td (i:=Int.toNat r.op) hq.1 (by omega)
  refine Qy (Qh (Qi [true,true,true,true,true,true,false,false] Z Z (Qa (Qd Kr Z) Z (Qa (Qj V0 Z (h1.one 0 Z)) Z (Qa (Qd Uv Z) Z (Qa (Qj Y6 Z (h2.one 0 Z)) Z ?_))))))
  have hi1 : (Int.toNat r.op) < g.nodes.length:=(by first | assumption | omega | (simp only [List.length_set];first | assumption | omega) | (simp only [List.getElem_set_self,List.length_set];first | assumption | omega) | (simp only [Xc,Yp,List.length_set];first | assumption | omega) | (simp;done))
  obtain ⟨_,hr1,ha1⟩:=RdD.get hd1 hi1
  obtain ⟨o2,rfl,hd2⟩:=Node.op hr1
  replace ha1 : At w (X8 o1) (Ko o1 + (Int.toNat r.op) * 4) [.int .i64 ((g.nodes[(Int.toNat r.op)]'hi1).kind),.int .i64 ((g.nodes[(Int.toNat r.op)]'hi1).a),.int .i64 ((g.nodes[(Int.toNat r.op)]'hi1).b),o2]:=ha1
  refine Qa (Ki (i:=(Int.toNat r.op)) Tb Z Z (hd1.ext E).1 (by omega) hi1) Z (Qa (Qo Kn Z (ha1.ext E) Z) Z (Q6 Kn Z (fun b3 w8 e7 s3 h3=>?_)))
  have g_b3 : w.heap.size ≤ b3:=by have:=E.size;omega
  have y_b3:=h3.lt
  replace E:=E.trans e7;replace h1:=h1.ext e7;replace h2:=h2.ext e7
  have z8:=e7.size
  refine Qs (cs':=[.int .i64 ((g.nodes[(Int.toNat r.op)]'hi1).kind),.int .i64 ((g.nodes[(Int.toNat r.op)]'hi1).a),.int .i64 ((g.nodes[(Int.toNat r.op)]'hi1).b),o2]) Kn Z Z Z (Qb Z (Qb Z (Qb Z (Qb (RdD.one (hd2.ext E)) Z)))) h3 (Nat.le_of_ble_eq_true Z) Z (fun w9 m1 h3'=>?_)
  replace h3:=h3'
  replace E:=E.step m1 (fun g hg=>by cases hg;omega);replace h1:=h1.mod m1 (fun g hg=>by cases hg;omega);replace h2:=h2.mod m1 (fun g hg=>by cases hg;omega)
  have z9:=m1.size
  refine Qf (Qh (Qi [true,true,true,true,true,false,true,true,true,true,true,true,true] Z Z (Qa (Qo Kn Z h3.at Z) Z (Qa (Qd H1 Z) Z (Qa (Qj Y6 Z (h2.one 3 Z)) Z (Qa (Qd H0 Z) Z (Qa (Qj Y6 Z (h2.one 4 Z)) Z (Qv Tryz.call59 Z (c_Changed [.int .i64 ((g.nodes[(Int.toNat r.op)]'hi1).kind),.int .i64 ((g.nodes[(Int.toNat r.op)]'hi1).a),.int .i64 ((g.nodes[(Int.toNat r.op)]'hi1).b),o2] (g.nodes[(Int.toNat r.op)]'hi1) r.key r.val _ (Node.mkR (g.nodes[(Int.toNat r.op)]'hi1) (RdD.any (hd2.ext E)))) Z (fun _ w10 e8 hv=>?_)))))))))
  subst hv
  replace E:=E.trans e8;replace h1:=h1.ext e8;replace h2:=h2.ext e8;replace h3:=h3.ext e8
  have z10:=e8.size
  refine Qa (Qe Z) Z (Qa (Q5 Z Z) Z (Qa (Q5 Z Z) Z (Qa (Q5 Z Z) Z (Qa (Qg Z) Z (Qa (Qg Z) Z (Qa (Qg Z) Z (Qf (Qh (Qh (Qi [true,true,true,true,true,true,true] Z Z (Qa (Qe Z) Z (Qa (Y1 Z) Z (Qa (Qe Z) Z (Xg 4 [(0,.agg [o1,.int .i64 g.workers,.int .i64 g.cap].toArray),(1,vcs),(2,.agg (Enc.enc r).toArray),(3,.pointer (some ⟨b1,0,none⟩)),(5,.pointer (some ⟨b2,0,none⟩)),(6,.slice none 0 0),(7,.slice none 0 0),(8,.bool false),(9,.pointer (some ⟨b3,0,none⟩)),(10,.int .i64 ((Qm (g.nodes[(Int.toNat r.op)]'hi1) r.key r.val).1)),(11,.int .i64 ((Qm (g.nodes[(Int.toNat r.op)]'hi1) r.key r.val).2.1)),(12,.bool ((Qm (g.nodes[(Int.toNat r.op)]'hi1) r.key r.val).2.2)),(33,.bool (((!(Yf g)) || (!(Yn r))) || (!(Xd g r.op)))),(36,.pointer (some ⟨b1,0,none⟩)),(37,o1),(38,.pointer (some ⟨b2,0,none⟩)),(39,.int .i64 r.op),(40,.pointer (some ⟨X8 o1,Ko o1 + (Int.toNat r.op) * 4,none⟩)),(41,.agg [.int .i64 ((g.nodes[(Int.toNat r.op)]'hi1).kind),.int .i64 ((g.nodes[(Int.toNat r.op)]'hi1).a),.int .i64 ((g.nodes[(Int.toNat r.op)]'hi1).b),o2].toArray),(42,.tuple [.int .i64 ((Qm (g.nodes[(Int.toNat r.op)]'hi1) r.key r.val).1),.int .i64 ((Qm (g.nodes[(Int.toNat r.op)]'hi1) r.key r.val).2.1),.bool ((Qm (g.nodes[(Int.toNat r.op)]'hi1) r.key r.val).2.2)].toArray),(43,.agg [.int .i64 ((g.nodes[(Int.toNat r.op)]'hi1).kind),.int .i64 ((g.nodes[(Int.toNat r.op)]'hi1).a),.int .i64 ((g.nodes[(Int.toNat r.op)]'hi1).b),o2].toArray),(44,.pointer (some ⟨b2,3,none⟩)),(45,.int .i64 r.key),(46,.pointer (some ⟨b2,4,none⟩)),(47,.int .i64 r.val),(48,.tuple [.int .i64 ((Qm (g.nodes[(Int.toNat r.op)]'hi1) r.key r.val).1),.int .i64 ((Qm (g.nodes[(Int.toNat r.op)]'hi1) r.key r.val).2.1),.bool ((Qm (g.nodes[(Int.toNat r.op)]'hi1) r.key r.val).2.2)].toArray),(49,.int .i64 ((Qm (g.nodes[(Int.toNat r.op)]'hi1) r.key r.val).1)),(50,.int .i64 ((Qm (g.nodes[(Int.toNat r.op)]'hi1) r.key r.val).2.1)),(51,.bool ((Qm (g.nodes[(Int.toNat r.op)]'hi1) r.key r.val).2.2)),(58,.bool ((!((Qm (g.nodes[(Int.toNat r.op)]'hi1) r.key r.val).2.2)) && (((g.nodes[(Int.toNat r.op)]'hi1).kind) != 8)))] (fun w'=>w10 = w') ?_ ?_))))))))))))))
  ·refine Ym (gd:=54) Z Z (fun hg3=>?_) (fun hg3=>?_)
   ·refine Qk Z Z (Qd X7 Z) Z (Qk Z Z (Qj Y6 Z (h3.one 0 Z)) Z (Qk Z Z (Xs Z Z) Z (Qa (Qr Z Z) Z (Ql ⟨Z,Z,Z,Z,Z,Z,Z,Z,Z,Z,Z,Z,Z,Z,Z,Z,Z,Z,Z,Z,Z,Z,Z,Z,Z,Z,Z,Z,Z,congrArg (fun b=>some (Value.bool b)) (show (((g.nodes[(Int.toNat r.op)]'hi1).kind) != 8) = ((!((Qm (g.nodes[(Int.toNat r.op)]'hi1) r.key r.val).2.2)) && (((g.nodes[(Int.toNat r.op)]'hi1).kind) != 8)) by first | (rw [hg3] <;> rfl) | (simp [hg3];done) | (simp only [Qp] <;> simp)),trivial⟩ Z))))
   ·refine Qc Z Z Z Z (Qc Z Z Z Z (Qc Z Z Z Z (Qa (Qq Z Z) Z (Ql ⟨Z,Z,Z,Z,Z,Z,Z,Z,Z,Z,Z,Z,Z,Z,Z,Z,Z,Z,Z,Z,Z,Z,Z,Z,Z,Z,Z,Z,Z,congrArg (fun b=>some (Value.bool b)) (show false = ((!((Qm (g.nodes[(Int.toNat r.op)]'hi1) r.key r.val).2.2)) && (((g.nodes[(Int.toNat r.op)]'hi1).kind) != 8)) by first | (rw [hg3] <;> rfl) | (simp [hg3];done) | (simp only [Qp] <;> simp)),trivial⟩ Z))))
  rintro _ rfl
  refine Qf (Qw Z (fun hc2=>?_) (fun hc2=>?_))
  ·refine Qh (Qi [true,false,true,true,true] Z Z (Qa (Qe Z) Z (Qv Tryz.call52 Z (c_copyCells vcs cs _ (hcs.ext E) (by first | omega | (simp only [Qt];omega) | (rw [Qt];done) | (simp only [Qt];done))) Z (fun v2 w12 e9 ho2=>?_))))
   have g_ho2 : w.heap.size ≤ w10.heap.size:=E.size
   replace E:=E.trans e9;replace h1:=h1.ext e9;replace h2:=h2.ext e9;replace h3:=h3.ext e9
   have z11:=e9.size
   refine Qa (Qg Z) Z (Qa (Qg Z) Z (Qa (Qg Z) Z (Qf (Qx (Yo (l:=[.tmp 6,.tmp 7,.tmp 8]) (vs:=[v2,.slice none 0 0,.bool true]) Z ⟨.tmp Z,.tmp Z,.tmp Z,trivial⟩ Z E ?_)))))
   rw [st_1 hc1 hx hc2]
   exact ⟨_,_,Z,Own.fin ho2 (by omega) (by omega) (by first | rfl | (simp only [List.nil_append];done)),Own.finNil Z,⟨⟨(Sep.nilR _),trivial⟩,⟨trivial,trivial⟩⟩⟩
  ·refine Qy (Qh (Qi [true,true,true,true,true,true,true,true,true,true,true,true,true,false,true,true,true,true,true] Z Z (Qa (Qd X7 Z) Z (Qa (Qj Y6 Z (h3.one 0 Z)) Z (Qa (Qe Z) Z (Qa (Qd Uv Z) Z (Qa (Qj Y6 Z (h2.one 0 Z)) Z (Qa (Qd Kz Z) Z (Qa (Yt Vf Z) Z (Qa (Qj Y6 Z (h2.one 1 Z)) Z (Qa (Qd H1 Z) Z (Qa (Qj Y6 Z (h2.one 3 Z)) Z (Qa (Qd H0 Z) Z (Qa (Qj Y6 Z (h2.one 4 Z)) Z (Qa (Kl (⟨r.op,r.stamp.epoch,r.key,r.val⟩ : Cell) Z (fun _=>by kernel_rfl)) Z (Qv Tryz.call60 Z (c_Recall ((g.nodes[(Int.toNat r.op)]'hi1).kind) vcs cs (⟨r.op,r.stamp.epoch,r.key,r.val⟩ : Cell) _ (hcs.ext E) (by first | omega | (simp only [Qt];omega) | (rw [Qt];done) | (simp only [Qt];done))) Z (fun _ w13 e10 ho3=>?_)))))))))))))))))
   obtain ⟨v3,rfl,ho4⟩:=ho3
   have g_ho3 : w.heap.size ≤ w10.heap.size:=E.size
   replace E:=E.trans e10;replace h1:=h1.ext e10;replace h2:=h2.ext e10;replace h3:=h3.ext e10
   have z12:=e10.size
   refine Qa (Qe Z) Z (Qa (Q5 Z Z) Z (Qa (Q5 Z Z) Z (Qa (Qg Z) Z (Qa (Qg Z) Z (Qf (Qh (Qh (Qi [true,true] Z Z (Qa (Qe Z) Z (Qa (Y1 Z) Z (Qf (Qw Z (fun hc3=>?_) (fun hc3=>?_)))))))))))))
   ·refine Qh (Qi [true,true,true,true] Z Z (Qa (Qe Z) Z (Qa (Qg Z) Z (Qa (Qg Z) Z (Qa (Qg Z) Z (Qf (Qx (Yo (l:=[.tmp 6,.tmp 7,.tmp 8]) (vs:=[v3,.slice none 0 0,.bool true]) Z ⟨.tmp Z,.tmp Z,.tmp Z,trivial⟩ Z E ?_))))))))
    rw [st_2 hc1 hx hc2 hc3]
    exact ⟨_,_,Z,Own.fin ho4 (by omega) (by omega) (by first | rfl | (simp only [List.nil_append];done)),Own.finNil Z,⟨⟨(Sep.nilR _),trivial⟩,⟨trivial,trivial⟩⟩⟩
   ·refine Qy (Qh (Qi [true,true,false,false,true] Z Z (Qa (Qd Kz Z) Z (Qa (Qo X2 Z (h2.part 1 [.int .i64 r.stamp.epoch,.int .i64 r.stamp.turn] Z) Z) Z (Q6 X2 Z (fun b4 w14 e11 s4 h4=>?_))))))
    have g_b4 : w.heap.size ≤ b4:=by have:=E.size;omega
    have y_b4:=h4.lt
    replace E:=E.trans e11;replace h1:=h1.ext e11;replace h2:=h2.ext e11;replace h3:=h3.ext e11;replace ho4:=ho4.ext e11
    have z13:=e11.size
    refine Qs (cs':=[.int .i64 r.stamp.epoch,.int .i64 r.stamp.turn]) X2 Z Z Z Z h4 (Nat.le_of_ble_eq_true Z) Z (fun w15 m2 h4'=>?_)
    replace h4:=h4'
    replace E:=E.step m2 (fun g hg=>by cases hg;omega);replace h1:=h1.mod m2 (fun g hg=>by cases hg;omega);replace h2:=h2.mod m2 (fun g hg=>by cases hg;omega);replace h3:=h3.mod m2 (fun g hg=>by cases hg;omega);replace ho4:=ho4.mod m2 (fun g hg=>by cases hg;omega)
    have z14:=m2.size
    refine Qa (Qg Z) Z (Qf (Qh (Qh (Qi [true,true,true] Z Z (Qa (Qd X7 Z) Z (Qa (Qj Y6 Z (h3.one 0 Z)) Z (Qa (Yq Z Z) Z (Qf (Qw Z (fun hc4=>?_) (fun hc4=>?_))))))))))
    ·have hstm:=stamp_7 hx hc4
     refine Qi [true,true,false,true,true,true,false,true] Z Z (Qa (Qd Kz Z) Z (Qa (Qo X2 Z (h2.part 1 [.int .i64 r.stamp.epoch,.int .i64 r.stamp.turn] Z) Z) Z (Qv Tryz.call61 Z (c_NextTurn r.stamp _ ) Z (fun _ w16 e12 hv=>?_))))
     subst hv
     replace E:=E.trans e12;replace h1:=h1.ext e12;replace h2:=h2.ext e12;replace h3:=h3.ext e12;replace ho4:=ho4.ext e12;replace h4:=h4.ext e12
     have z15:=e12.size
     refine Qa (Qe Z) Z (Qa (Q5 Z Z) Z (Qa (Q5 Z Z) Z (Qs (cs':=[.int .i64 (((Yr r.stamp).1).epoch),.int .i64 (((Yr r.stamp).1).turn)]) X2 Z Z Z Z h4 (Nat.le_of_ble_eq_true Z) Z (fun w17 m3 h4'=>?_))))
     replace h4:=h4'
     replace E:=E.step m3 (fun g hg=>by cases hg;omega);replace h1:=h1.mod m3 (fun g hg=>by cases hg;omega);replace h2:=h2.mod m3 (fun g hg=>by cases hg;omega);replace h3:=h3.mod m3 (fun g hg=>by cases hg;omega);replace ho4:=ho4.mod m3 (fun g hg=>by cases hg;omega)
     have z16:=m3.size
     refine Qa (Qg Z) Z (Qf (Qh (Qi [true] Z Z (Qa (Qg Z) Z (Qf (Qh (Qh (Qi [true,true,true,true] Z Z (Qa (Qd Xz Z) Z (Qa (Qj Kg Z (h3.one 3 Z)) Z (Qa (Yg Tryz.underlying29 Z (hd2.ext E).len) Z (Qa (Qe Z) Z (Qf (Q9 (Xk (fun (xq : Nat × Value)=>let ⟨k,vo⟩:=xq;[(6,.slice none 0 0),(7,.slice none 0 0),(8,.bool false),(10,.int .i64 ((Qm (g.nodes[(Int.toNat r.op)]'hi1) r.key r.val).1)),(11,.int .i64 ((Qm (g.nodes[(Int.toNat r.op)]'hi1) r.key r.val).2.1)),(13,v3),(14,.pointer (some ⟨b4,0,none⟩)),(15,.bool ((Yr r.stamp).2)),(16,vo),(93,o2),(94,.int .i64 ((((g.nodes[(Int.toNat r.op)]'hi1).outs).length : Nat) : Int)),(95,.int .i64 ((k : Nat) : Int))]) (fun (xq : Nat × Value) w'=>let ⟨k,vo⟩:=xq;Ext w w' ∧ w17.heap.size ≤ w'.heap.size ∧ Blk w' b1 ([o1,.int .i64 g.workers,.int .i64 g.cap]) ∧ Blk w' b2 (Enc.enc r) ∧ Blk w' b3 [.int .i64 ((g.nodes[(Int.toNat r.op)]'hi1).kind),.int .i64 ((g.nodes[(Int.toNat r.op)]'hi1).a),.int .i64 ((g.nodes[(Int.toNat r.op)]'hi1).b),o2] ∧ Own w' w10.heap.size w13.heap.size 4 v3 (List.flatMap (Enc.enc (α:=Cell)) ((X1 ((g.nodes[(Int.toNat r.op)]'hi1).kind) cs (⟨r.op,r.stamp.epoch,r.key,r.val⟩ : Cell)).1)) ∧ Blk w' b4 [.int .i64 (((Yr r.stamp).1).epoch),.int .i64 (((Yr r.stamp).1).turn)] ∧ k ≤ (g.nodes[Int.toNat r.op]'hop.2.2).outs.length ∧ Own w' w17.heap.size w'.heap.size 5 vo (List.flatMap (Enc.enc (α:=Record)) (U9 g r k))) (fun (xq : Nat × Value)=>let ⟨k,vo⟩:=xq;(g.nodes[Int.toNat r.op]'hop.2.2).outs.length - k) (0,.slice none 0 0) ⟨Z,Z,Z,Z,Z,Z,Z,Z,Z,Z,Z,Z,trivial⟩ ⟨E,Nat.le_refl _,h1,h2,h3,ho4,h4,Nat.zero_le _,Own.fin (Own.nil w17 w17.heap.size w17.heap.size 5) (by omega) (by omega) out_zero.symm⟩ ?_)))))))))))))))
     clear E h1 h2 h3 ho4 h4
     rintro ⟨k,vo⟩ w18 ⟨E,z17,h1,h2,h3,ho4,h4,hk,hvo⟩
     refine Yh [(6,.slice none 0 0),(7,.slice none 0 0),(8,.bool false),(10,.int .i64 ((Qm (g.nodes[(Int.toNat r.op)]'hi1) r.key r.val).1)),(11,.int .i64 ((Qm (g.nodes[(Int.toNat r.op)]'hi1) r.key r.val).2.1)),(13,v3),(14,.pointer (some ⟨b4,0,none⟩)),(15,.bool ((Yr r.stamp).2)),(16,vo),(93,o2),(94,.int .i64 ((((g.nodes[(Int.toNat r.op)]'hi1).outs).length : Nat) : Int)),(95,.int .i64 ((k : Nat) : Int))] ⟨Z,Z,Z,Z,Z,Z,Z,Z,Z,Z,Z,Z,trivial⟩ ?_
     refine Qh (Qi [true] Z Z (Qa (Xn Z Z) Z (Qf (Qh (Qw Z (fun hc5=>?_) (fun hc5=>?_))))))
     ·have hc5n : k < ((g.nodes[(Int.toNat r.op)]'hi1).outs).length:=by first | (have h:=of_decide_eq_true hc5;omega) | (have h:=hc5;simp at h;omega)
      refine Qy (Qh (Q9 (Qh (Qi [true,true,true] Z Z ?_))))
      have hi2 : k < ((g.nodes[(Int.toNat r.op)]'hi1).outs).length:=(by first | assumption | omega | (simp only [List.length_set];first | assumption | omega) | (simp only [List.getElem_set_self,List.length_set];first | assumption | omega) | (simp only [Xc,Yp,List.length_set];first | assumption | omega) | (simp;done))
      refine Qa (Ye (i:=k) Ke Z Z (hd2.rd.ext E) hi2) Z (Qa (Qj Y6 Z (((hd2.rd.ext E).get hi2).one 0 Z)) Z (Qa (Qg Z) Z (Qf (Qh (Qi [true] Z Z (Qa (Qe Z) Z (Qf (Qw Z (fun hc6=>?_) (fun hc6=>?_)))))))))
      ·refine Qi [true,true,true,true,true,true,false,false,true] Z Z (Qa (Qe Z) Z (Qa (Qe Z) Z (Qa (Qo X2 Z h4.at Z) Z (Qa (Qe Z) Z (Qa (Qe Z) Z (Qa (Kl (⟨(((g.nodes[(Int.toNat r.op)]'hi1).outs)[k]'hi2),((Yr r.stamp).1),(Qm (g.nodes[(Int.toNat r.op)]'hi1) r.key r.val).1,(Qm (g.nodes[(Int.toNat r.op)]'hi1) r.key r.val).2.1⟩ : Record) Z (fun _=>by kernel_rfl)) Z (Q8 (vs:=[.agg (Enc.enc (⟨(((g.nodes[(Int.toNat r.op)]'hi1).outs)[k]'hi2),((Yr r.stamp).1),(Qm (g.nodes[(Int.toNat r.op)]'hi1) r.key r.val).1,(Qm (g.nodes[(Int.toNat r.op)]'hi1) r.key r.val).2.1⟩ : Record)).toArray]) (css:=[[.int .i64 ((⟨(((g.nodes[(Int.toNat r.op)]'hi1).outs)[k]'hi2),((Yr r.stamp).1),(Qm (g.nodes[(Int.toNat r.op)]'hi1) r.key r.val).1,(Qm (g.nodes[(Int.toNat r.op)]'hi1) r.key r.val).2.1⟩ : Record).op),.int .i64 (((⟨(((g.nodes[(Int.toNat r.op)]'hi1).outs)[k]'hi2),((Yr r.stamp).1),(Qm (g.nodes[(Int.toNat r.op)]'hi1) r.key r.val).1,(Qm (g.nodes[(Int.toNat r.op)]'hi1) r.key r.val).2.1⟩ : Record).stamp).epoch),.int .i64 (((⟨(((g.nodes[(Int.toNat r.op)]'hi1).outs)[k]'hi2),((Yr r.stamp).1),(Qm (g.nodes[(Int.toNat r.op)]'hi1) r.key r.val).1,(Qm (g.nodes[(Int.toNat r.op)]'hi1) r.key r.val).2.1⟩ : Record).stamp).turn),.int .i64 ((⟨(((g.nodes[(Int.toNat r.op)]'hi1).outs)[k]'hi2),((Yr r.stamp).1),(Qm (g.nodes[(Int.toNat r.op)]'hi1) r.key r.val).1,(Qm (g.nodes[(Int.toNat r.op)]'hi1) r.key r.val).2.1⟩ : Record).key),.int .i64 ((⟨(((g.nodes[(Int.toNat r.op)]'hi1).outs)[k]'hi2),((Yr r.stamp).1),(Qm (g.nodes[(Int.toNat r.op)]'hi1) r.key r.val).1,(Qm (g.nodes[(Int.toNat r.op)]'hi1) r.key r.val).2.1⟩ : Record).val)]]) X3 Z Z ⟨⟨Z,Z⟩,trivial⟩ Z Z (fun b5 w19 e13 s5 h5=>?_))))))))
       replace h5 : Blk w19 b5 [.int .i64 ((⟨(((g.nodes[(Int.toNat r.op)]'hi1).outs)[k]'hi2),((Yr r.stamp).1),(Qm (g.nodes[(Int.toNat r.op)]'hi1) r.key r.val).1,(Qm (g.nodes[(Int.toNat r.op)]'hi1) r.key r.val).2.1⟩ : Record).op),.int .i64 (((⟨(((g.nodes[(Int.toNat r.op)]'hi1).outs)[k]'hi2),((Yr r.stamp).1),(Qm (g.nodes[(Int.toNat r.op)]'hi1) r.key r.val).1,(Qm (g.nodes[(Int.toNat r.op)]'hi1) r.key r.val).2.1⟩ : Record).stamp).epoch),.int .i64 (((⟨(((g.nodes[(Int.toNat r.op)]'hi1).outs)[k]'hi2),((Yr r.stamp).1),(Qm (g.nodes[(Int.toNat r.op)]'hi1) r.key r.val).1,(Qm (g.nodes[(Int.toNat r.op)]'hi1) r.key r.val).2.1⟩ : Record).stamp).turn),.int .i64 ((⟨(((g.nodes[(Int.toNat r.op)]'hi1).outs)[k]'hi2),((Yr r.stamp).1),(Qm (g.nodes[(Int.toNat r.op)]'hi1) r.key r.val).1,(Qm (g.nodes[(Int.toNat r.op)]'hi1) r.key r.val).2.1⟩ : Record).key),.int .i64 ((⟨(((g.nodes[(Int.toNat r.op)]'hi1).outs)[k]'hi2),((Yr r.stamp).1),(Qm (g.nodes[(Int.toNat r.op)]'hi1) r.key r.val).1,(Qm (g.nodes[(Int.toNat r.op)]'hi1) r.key r.val).2.1⟩ : Record).val)]:=h5
       have g_b5 : w.heap.size ≤ b5:=by have:=E.size;omega
       have y_b5:=h5.lt
       replace E:=E.trans e13;replace h1:=h1.ext e13;replace h2:=h2.ext e13;replace h3:=h3.ext e13;replace ho4:=ho4.ext e13;replace h4:=h4.ext e13;replace hvo:=hvo.ext e13
       have z18:=e13.size
       refine K2 X3 Z Z hvo (Src.ofBlk h5 Z) Z (by first | (simp only [Ya,List.length_nil,List.length_cons];simp only [Enc.sz];omega) | (have h:=Gd g r k;rw [Ya];simp only [show Enc.sz Record = 5 from Z,List.length_cons,List.length_nil];omega)) (by decide) (by omega) (by omega) Z Z (fun v4 w20 m4 ho5=>?_)
       replace E:=E.step m4 (fun g hg=>by have:=Own.blk hvo g hg;omega);replace h1:=h1.mod m4 (fun g hg=>by have:=Own.blk hvo g hg;omega);replace h2:=h2.mod m4 (fun g hg=>by have:=Own.blk hvo g hg;omega);replace h3:=h3.mod m4 (fun g hg=>by have:=Own.blk hvo g hg;omega);replace ho4:=ho4.mod m4 (fun g hg=>by have:=Own.blk hvo g hg;omega);replace h4:=h4.mod m4 (fun g hg=>by have:=Own.blk hvo g hg;omega)
       have z19:=m4.size
       refine Qa (Qg Z) Z (Qf (Yb (Yv (Qi [true,true] Z Z (Qa (Yw Z Z (Y7 hc5n (hd2.ext E).1.1)) Z (Qa (Qe Z) Z (Qf (Yb (Yy (k + 1,v4) (by dsimp only;omega) ⟨Z,Z,Z,Z,Z,Z,Z,Z,Z,Z,Z,Z,trivial⟩ ⟨E,(by omega),h1,h2,h3,ho4,h4,(by omega),Own.fin ho5 (Nat.le_refl _) (by omega) (Gl (by rw [hstm]) (by rw [hstm];exact hc6) hx (by omega))⟩)))))))))
      ·refine Qy (Yb (Yv (Qi [true,true] Z Z (Qa (Yw Z Z (Y7 hc5n (hd2.ext E).1.1)) Z (Qa (Qe Z) Z (Qf (Yb (Yy (k + 1,vo) (by dsimp only;omega) ⟨Z,Z,Z,Z,Z,Z,Z,Z,Z,Z,Z,Z,trivial⟩ ⟨E,(by omega),h1,h2,h3,ho4,h4,(by omega),Own.fin hvo (Nat.le_refl _) (by omega) (out_skip (by rw [hstm];exact hc6))⟩))))))))
     ·have hc5n : ¬ k < ((g.nodes[(Int.toNat r.op)]'hi1).outs).length:=by first | (have h:=of_decide_eq_false hc5;omega) | (have h:=hc5;simp at h;omega)
      refine Xl (Ys (Yj ?_))
      refine Qh (Qi [true,true,true,true,true] Z Z (Qa (Qe Z) Z (Qa (Qe Z) Z (Qa (Qg Z) Z (Qa (Qg Z) Z (Qa (Qg Z) Z (Qf (Qx (Yo (l:=[.tmp 6,.tmp 7,.tmp 8]) (vs:=[v3,vo,.bool true]) Z ⟨.tmp Z,.tmp Z,.tmp Z,trivial⟩ Z E ?_)))))))))
      rw [st_3 hc1 hx hc2 hc3]
      exact ⟨_,_,Z,Own.fin ho4 (by omega) (by omega) (by first | rfl | (simp only [List.nil_append];done)),Own.fin hvo (by omega) (by omega) (by rw [show (g.nodes[Int.toNat r.op]'hop.2.2).outs.length = k from by omega]),⟨⟨(Own.sep ho4 hvo (by omega)),trivial⟩,⟨trivial,trivial⟩⟩⟩
    ·have hstm:=stamp_o hx hc4
     refine Qy (Qh (Qi [true] Z Z (Qa (Qg Z) Z (Qf (Qh (Qh (Qi [true,true,true,true] Z Z (Qa (Qd Xz Z) Z (Qa (Qj Kg Z (h3.one 3 Z)) Z (Qa (Yg Tryz.underlying29 Z (hd2.ext E).len) Z (Qa (Qe Z) Z (Qf (Q9 (Xk (fun (xq : Nat × Value)=>let ⟨k,vo⟩:=xq;[(6,.slice none 0 0),(7,.slice none 0 0),(8,.bool false),(10,.int .i64 ((Qm (g.nodes[(Int.toNat r.op)]'hi1) r.key r.val).1)),(11,.int .i64 ((Qm (g.nodes[(Int.toNat r.op)]'hi1) r.key r.val).2.1)),(13,v3),(14,.pointer (some ⟨b4,0,none⟩)),(15,.bool true),(16,vo),(93,o2),(94,.int .i64 ((((g.nodes[(Int.toNat r.op)]'hi1).outs).length : Nat) : Int)),(95,.int .i64 ((k : Nat) : Int))]) (fun (xq : Nat × Value) w'=>let ⟨k,vo⟩:=xq;Ext w w' ∧ w15.heap.size ≤ w'.heap.size ∧ Blk w' b1 ([o1,.int .i64 g.workers,.int .i64 g.cap]) ∧ Blk w' b2 (Enc.enc r) ∧ Blk w' b3 [.int .i64 ((g.nodes[(Int.toNat r.op)]'hi1).kind),.int .i64 ((g.nodes[(Int.toNat r.op)]'hi1).a),.int .i64 ((g.nodes[(Int.toNat r.op)]'hi1).b),o2] ∧ Own w' w10.heap.size w13.heap.size 4 v3 (List.flatMap (Enc.enc (α:=Cell)) ((X1 ((g.nodes[(Int.toNat r.op)]'hi1).kind) cs (⟨r.op,r.stamp.epoch,r.key,r.val⟩ : Cell)).1)) ∧ Blk w' b4 [.int .i64 r.stamp.epoch,.int .i64 r.stamp.turn] ∧ k ≤ (g.nodes[Int.toNat r.op]'hop.2.2).outs.length ∧ Own w' w15.heap.size w'.heap.size 5 vo (List.flatMap (Enc.enc (α:=Record)) (U9 g r k))) (fun (xq : Nat × Value)=>let ⟨k,vo⟩:=xq;(g.nodes[Int.toNat r.op]'hop.2.2).outs.length - k) (0,.slice none 0 0) ⟨Z,Z,Z,Z,Z,Z,Z,Z,Z,Z,Z,Z,trivial⟩ ⟨E,Nat.le_refl _,h1,h2,h3,ho4,h4,Nat.zero_le _,Own.fin (Own.nil w15 w15.heap.size w15.heap.size 5) (by omega) (by omega) out_zero.symm⟩ ?_))))))))))))))
     clear E h1 h2 h3 ho4 h4
     rintro ⟨k,vo⟩ w21 ⟨E,z20,h1,h2,h3,ho4,h4,hk,hvo⟩
     refine Yh [(6,.slice none 0 0),(7,.slice none 0 0),(8,.bool false),(10,.int .i64 ((Qm (g.nodes[(Int.toNat r.op)]'hi1) r.key r.val).1)),(11,.int .i64 ((Qm (g.nodes[(Int.toNat r.op)]'hi1) r.key r.val).2.1)),(13,v3),(14,.pointer (some ⟨b4,0,none⟩)),(15,.bool true),(16,vo),(93,o2),(94,.int .i64 ((((g.nodes[(Int.toNat r.op)]'hi1).outs).length : Nat) : Int)),(95,.int .i64 ((k : Nat) : Int))] ⟨Z,Z,Z,Z,Z,Z,Z,Z,Z,Z,Z,Z,trivial⟩ ?_
     refine Qh (Qi [true] Z Z (Qa (Xn Z Z) Z (Qf (Qh (Qw Z (fun hc7=>?_) (fun hc7=>?_))))))
     ·have hc7n : k < ((g.nodes[(Int.toNat r.op)]'hi1).outs).length:=by first | (have h:=of_decide_eq_true hc7;omega) | (have h:=hc7;simp at h;omega)
      refine Qy (Qh (Q9 (Qh (Qi [true,true,true] Z Z ?_))))
      have hi3 : k < ((g.nodes[(Int.toNat r.op)]'hi1).outs).length:=(by first | assumption | omega | (simp only [List.length_set];first | assumption | omega) | (simp only [List.getElem_set_self,List.length_set];first | assumption | omega) | (simp only [Xc,Yp,List.length_set];first | assumption | omega) | (simp;done))
      refine Qa (Ye (i:=k) Ke Z Z (hd2.rd.ext E) hi3) Z (Qa (Qj Y6 Z (((hd2.rd.ext E).get hi3).one 0 Z)) Z (Qa (Qg Z) Z (Qf (Qh (Qi [true] Z Z (Qa (Qe Z) Z (Qf (S_condT Z (Qi [true,true,true,true,true,true,false,false,true] Z Z (Qa (Qe Z) Z (Qa (Qe Z) Z (Qa (Qo X2 Z h4.at Z) Z (Qa (Qe Z) Z (Qa (Qe Z) Z (Qa (Kl (⟨(((g.nodes[(Int.toNat r.op)]'hi1).outs)[k]'hi3),r.stamp,(Qm (g.nodes[(Int.toNat r.op)]'hi1) r.key r.val).1,(Qm (g.nodes[(Int.toNat r.op)]'hi1) r.key r.val).2.1⟩ : Record) Z (fun _=>by kernel_rfl)) Z (Q8 (vs:=[.agg (Enc.enc (⟨(((g.nodes[(Int.toNat r.op)]'hi1).outs)[k]'hi3),r.stamp,(Qm (g.nodes[(Int.toNat r.op)]'hi1) r.key r.val).1,(Qm (g.nodes[(Int.toNat r.op)]'hi1) r.key r.val).2.1⟩ : Record)).toArray]) (css:=[[.int .i64 ((⟨(((g.nodes[(Int.toNat r.op)]'hi1).outs)[k]'hi3),r.stamp,(Qm (g.nodes[(Int.toNat r.op)]'hi1) r.key r.val).1,(Qm (g.nodes[(Int.toNat r.op)]'hi1) r.key r.val).2.1⟩ : Record).op),.int .i64 (((⟨(((g.nodes[(Int.toNat r.op)]'hi1).outs)[k]'hi3),r.stamp,(Qm (g.nodes[(Int.toNat r.op)]'hi1) r.key r.val).1,(Qm (g.nodes[(Int.toNat r.op)]'hi1) r.key r.val).2.1⟩ : Record).stamp).epoch),.int .i64 (((⟨(((g.nodes[(Int.toNat r.op)]'hi1).outs)[k]'hi3),r.stamp,(Qm (g.nodes[(Int.toNat r.op)]'hi1) r.key r.val).1,(Qm (g.nodes[(Int.toNat r.op)]'hi1) r.key r.val).2.1⟩ : Record).stamp).turn),.int .i64 ((⟨(((g.nodes[(Int.toNat r.op)]'hi1).outs)[k]'hi3),r.stamp,(Qm (g.nodes[(Int.toNat r.op)]'hi1) r.key r.val).1,(Qm (g.nodes[(Int.toNat r.op)]'hi1) r.key r.val).2.1⟩ : Record).key),.int .i64 ((⟨(((g.nodes[(Int.toNat r.op)]'hi1).outs)[k]'hi3),r.stamp,(Qm (g.nodes[(Int.toNat r.op)]'hi1) r.key r.val).1,(Qm (g.nodes[(Int.toNat r.op)]'hi1) r.key r.val).2.1⟩ : Record).val)]]) X3 Z Z ⟨⟨Z,Z⟩,trivial⟩ Z Z (fun b6 w22 e14 s6 h6=>?_)))))))))))))))))
      replace h6 : Blk w22 b6 [.int .i64 ((⟨(((g.nodes[(Int.toNat r.op)]'hi1).outs)[k]'hi3),r.stamp,(Qm (g.nodes[(Int.toNat r.op)]'hi1) r.key r.val).1,(Qm (g.nodes[(Int.toNat r.op)]'hi1) r.key r.val).2.1⟩ : Record).op),.int .i64 (((⟨(((g.nodes[(Int.toNat r.op)]'hi1).outs)[k]'hi3),r.stamp,(Qm (g.nodes[(Int.toNat r.op)]'hi1) r.key r.val).1,(Qm (g.nodes[(Int.toNat r.op)]'hi1) r.key r.val).2.1⟩ : Record).stamp).epoch),.int .i64 (((⟨(((g.nodes[(Int.toNat r.op)]'hi1).outs)[k]'hi3),r.stamp,(Qm (g.nodes[(Int.toNat r.op)]'hi1) r.key r.val).1,(Qm (g.nodes[(Int.toNat r.op)]'hi1) r.key r.val).2.1⟩ : Record).stamp).turn),.int .i64 ((⟨(((g.nodes[(Int.toNat r.op)]'hi1).outs)[k]'hi3),r.stamp,(Qm (g.nodes[(Int.toNat r.op)]'hi1) r.key r.val).1,(Qm (g.nodes[(Int.toNat r.op)]'hi1) r.key r.val).2.1⟩ : Record).key),.int .i64 ((⟨(((g.nodes[(Int.toNat r.op)]'hi1).outs)[k]'hi3),r.stamp,(Qm (g.nodes[(Int.toNat r.op)]'hi1) r.key r.val).1,(Qm (g.nodes[(Int.toNat r.op)]'hi1) r.key r.val).2.1⟩ : Record).val)]:=h6
      have g_b6 : w.heap.size ≤ b6:=by have:=E.size;omega
      have y_b6:=h6.lt
      replace E:=E.trans e14;replace h1:=h1.ext e14;replace h2:=h2.ext e14;replace h3:=h3.ext e14;replace ho4:=ho4.ext e14;replace h4:=h4.ext e14;replace hvo:=hvo.ext e14
      have z21:=e14.size
      refine K2 X3 Z Z hvo (Src.ofBlk h6 Z) Z (by first | (simp only [Ya,List.length_nil,List.length_cons];simp only [Enc.sz];omega) | (have h:=Gd g r k;rw [Ya];simp only [show Enc.sz Record = 5 from Z,List.length_cons,List.length_nil];omega)) (by decide) (by omega) (by omega) Z Z (fun v5 w23 m5 ho6=>?_)
      replace E:=E.step m5 (fun g hg=>by have:=Own.blk hvo g hg;omega);replace h1:=h1.mod m5 (fun g hg=>by have:=Own.blk hvo g hg;omega);replace h2:=h2.mod m5 (fun g hg=>by have:=Own.blk hvo g hg;omega);replace h3:=h3.mod m5 (fun g hg=>by have:=Own.blk hvo g hg;omega);replace ho4:=ho4.mod m5 (fun g hg=>by have:=Own.blk hvo g hg;omega);replace h4:=h4.mod m5 (fun g hg=>by have:=Own.blk hvo g hg;omega)
      have z22:=m5.size
      refine Qa (Qg Z) Z (Qf (Yb (Yv (Qi [true,true] Z Z (Qa (Yw Z Z (Y7 hc7n (hd2.ext E).1.1)) Z (Qa (Qe Z) Z (Qf (Yb (Yy (k + 1,v5) (by dsimp only;omega) ⟨Z,Z,Z,Z,Z,Z,Z,Z,Z,Z,Z,Z,trivial⟩ ⟨E,(by omega),h1,h2,h3,ho4,h4,(by omega),Own.fin ho6 (Nat.le_refl _) (by omega) (Gl (by rw [hstm]) (by rw [hstm]) hx (by omega))⟩)))))))))
     ·have hc7n : ¬ k < ((g.nodes[(Int.toNat r.op)]'hi1).outs).length:=by first | (have h:=of_decide_eq_false hc7;omega) | (have h:=hc7;simp at h;omega)
      refine Xl (Ys (Yj ?_))
      refine Qh (Qi [true,true,true,true,true] Z Z (Qa (Qe Z) Z (Qa (Qe Z) Z (Qa (Qg Z) Z (Qa (Qg Z) Z (Qa (Qg Z) Z (Qf (Qx (Yo (l:=[.tmp 6,.tmp 7,.tmp 8]) (vs:=[v3,vo,.bool true]) Z ⟨.tmp Z,.tmp Z,.tmp Z,trivial⟩ Z E ?_)))))))))
      rw [st_3 hc1 hx hc2 hc3]
      exact ⟨_,_,Z,Own.fin ho4 (by omega) (by omega) (by first | rfl | (simp only [List.nil_append];done)),Own.fin hvo (by omega) (by omega) (by rw [show (g.nodes[Int.toNat r.op]'hop.2.2).outs.length = k from by omega]),⟨⟨(Own.sep ho4 hvo (by omega)),trivial⟩,⟨trivial,trivial⟩⟩⟩

end Go.Proofs.YteljajfcppmeiaaGreat
