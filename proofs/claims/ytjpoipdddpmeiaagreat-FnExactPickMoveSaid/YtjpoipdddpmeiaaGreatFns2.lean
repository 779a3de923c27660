/- What the functions that the laws call come to: a contract each; no condition. -/
import Derived.Test.YtjpoipdddpmeiaaGreatFns
namespace Go.Proofs.YtjpoipdddpmeiaaGreat
open Go Go.Proofs.YtjpoipdddpmeiaaGreat.X Go.Proofs
set_option maxRecDepth 20000 in
theorem c_toRecord (x : Record) (w : World)  : Ct Tryz.prog 131 [.agg (Enc.enc x).toArray] w (fun v _=>v = .agg (Enc.enc x).toArray):=by
 refine Ym Tryz.func131 Z Tryz.ntmps131 Z ?_
 refine Q8 [(0,.agg (Enc.enc x).toArray)] ⟨Z,trivial⟩ ?_
 have E : Ext w w:=Ext.refl w
 refine Qe (Qh [false,false] Z Z (Y1 Z Z (fun b1 w1 e1 s1 h1=>?_)))
 have g_b1 : w.heap.size ≤ b1:=by have:=E.size;omega
 have y_b1:=h1.lt
 replace E:=E.trans e1
 have z1:=e1.size
 refine Yo Ul Z (fun b2 w2 e2 s2 h2=>?_)
 have g_b2 : w.heap.size ≤ b2:=by have:=E.size;omega
 have y_b2:=h2.lt
 replace E:=E.trans e2;replace h1:=h1.ext e2
 have z2:=e2.size
 refine Qc (Qe (Qh [false] Z Z (Yo Ul Z (fun b3 w3 e3 s3 h3=>?_))))
 have g_b3 : w.heap.size ≤ b3:=by have:=E.size;omega
 have y_b3:=h3.lt
 replace E:=E.trans e3;replace h1:=h1.ext e3;replace h2:=h2.ext e3
 have z3:=e3.size
 refine Qc (Qe (Qh [true,true,true,false] Z Z (Qa (Qb fl178_0 Z) Z (Qa (Qk Yt Z (h1.one 0 Z)) Z (Qa (Qb G5 Z) Z (Yj (cs':=[.int .i64 x.op,.int .i64 0,.int .i64 0,.int .i64 0,.int .i64 0]) Yt Z Z Z h3 (Nat.le_of_ble_eq_true Z) Z (fun w4 m1 h3'=>?_)))))))
 replace h3:=h3'
 replace E:=E.step m1 (fun g hg=>by cases hg;omega);replace h1:=h1.mod m1 (fun g hg=>by cases hg;omega);replace h2:=h2.mod m1 (fun g hg=>by cases hg;omega)
 have z4:=m1.size
 refine Qc (Qe (Qh [true,true,false,true,false] Z Z (Qa (Qb fl178_1 Z) Z (Qa (Qy st176 Z (h1.part 1 [.int .i64 x.stamp.epoch,.int .i64 x.stamp.turn] Z) Z) Z (Qw Tryz.call143 Z (c_toStamp x.stamp _ ) Z (fun _ w5 e4 hv=>?_))))))
 subst hv
 replace E:=E.trans e4;replace h1:=h1.ext e4;replace h2:=h2.ext e4;replace h3:=h3.ext e4
 have z5:=e4.size
 refine Qa (Qb U6 Z) Z (Q4 (cs':=[.int .i64 x.op,.int .i64 x.stamp.epoch,.int .i64 x.stamp.turn,.int .i64 0,.int .i64 0]) Dd Z Z Z Z h3 (Nat.le_of_ble_eq_true Z) Z (fun w6 m2 h3'=>?_))
 replace h3:=h3'
 replace E:=E.step m2 (fun g hg=>by cases hg;omega);replace h1:=h1.mod m2 (fun g hg=>by cases hg;omega);replace h2:=h2.mod m2 (fun g hg=>by cases hg;omega)
 have z6:=m2.size
 refine Qc (Qe (Qh [true,true,true,false] Z Z (Qa (Qb fl178_2 Z) Z (Qa (Qk Yt Z (h1.one 3 Z)) Z (Qa (Qb Tf Z) Z (Yj (cs':=[.int .i64 x.op,.int .i64 x.stamp.epoch,.int .i64 x.stamp.turn,.int .i64 x.key,.int .i64 0]) Yt Z Z Z h3 (Nat.le_of_ble_eq_true Z) Z (fun w7 m3 h3'=>?_)))))))
 replace h3:=h3'
 replace E:=E.step m3 (fun g hg=>by cases hg;omega);replace h1:=h1.mod m3 (fun g hg=>by cases hg;omega);replace h2:=h2.mod m3 (fun g hg=>by cases hg;omega)
 have z7:=m3.size
 refine Qc (Qe (Qh [true,true,true,false] Z Z (Qa (Qb fl178_3 Z) Z (Qa (Qk Yt Z (h1.one 4 Z)) Z (Qa (Qb C4 Z) Z (Yj (cs':=[.int .i64 x.op,.int .i64 x.stamp.epoch,.int .i64 x.stamp.turn,.int .i64 x.key,.int .i64 x.val]) Yt Z Z Z h3 (Nat.le_of_ble_eq_true Z) Z (fun w8 m4 h3'=>?_)))))))
 replace h3:=h3'
 replace E:=E.step m4 (fun g hg=>by cases hg;omega);replace h1:=h1.mod m4 (fun g hg=>by cases hg;omega);replace h2:=h2.mod m4 (fun g hg=>by cases hg;omega)
 have z8:=m4.size
 refine Qc (Qe (Qh [true,false] Z Z (Qa (Qy Ul Z h3.at Z) Z (Q4 (cs':=[.int .i64 x.op,.int .i64 x.stamp.epoch,.int .i64 x.stamp.turn,.int .i64 x.key,.int .i64 x.val]) Ul Z Z Z Z h2 (Nat.le_of_ble_eq_true Z) Z (fun w9 m5 h2'=>?_)))))
 replace h2:=h2'
 replace E:=E.step m5 (fun g hg=>by cases hg;omega);replace h1:=h1.mod m5 (fun g hg=>by cases hg;omega);replace h3:=h3.mod m5 (fun g hg=>by cases hg;omega)
 have z9:=m5.size
 refine Qc (Qv (X3 Z Z (Yd Ul h2.at Z) E ?_))
 rfl

set_option maxRecDepth 20000 in
theorem c_eqStamp (x : Stamp) (y : Stamp) (w : World)  : Ct Tryz.prog 147 [.agg (Enc.enc x).toArray,.agg (Enc.enc y).toArray] w (fun v _=>v = .bool (decide (x = y))):=by
 refine Ym Tryz.func147 Z Tryz.ntmps147 Z ?_
 refine Q8 [(0,.agg (Enc.enc x).toArray),(1,.agg (Enc.enc y).toArray)] ⟨Z,Z,trivial⟩ ?_
 have E : Ext w w:=Ext.refl w
 refine Qe (Qh [false,false,true] Z Z (Y1 Z Z (fun b1 w1 e1 s1 h1=>?_)))
 have g_b1 : w.heap.size ≤ b1:=by have:=E.size;omega
 have y_b1:=h1.lt
 replace E:=E.trans e1
 have z1:=e1.size
 refine Y1 Z Z (fun b2 w2 e2 s2 h2=>?_)
 have g_b2 : w.heap.size ≤ b2:=by have:=E.size;omega
 have y_b2:=h2.lt
 replace E:=E.trans e2;replace h1:=h1.ext e2
 have z2:=e2.size
 refine Qa (Qf Z) Z (Qc (Qe (Qe (Qh [true,true,true,true,true] Z Z (Qa (Qb V9 Z) Z (Qa (Qk Yt Z (h1.one 0 Z)) Z (Qa (Qb V9 Z) Z (Qa (Qk Yt Z (h2.one 0 Z)) Z (Qa (Yu Z Z) Z (Qc (Qt Z (fun hc1=>?_) (fun hc1=>?_))))))))))))
 ·refine Qe (Qh [true] Z Z (Qa (Qf Z) Z (Qc (Qv (Qm Z Z E ?_)))))
  cases x;cases y;simp_all
 ·refine Qo (Qe (Qe (Qh [true,true,true,true,true] Z Z (Qa (Qb Tg Z) Z (Qa (Qk Yt Z (h1.one 1 Z)) Z (Qa (Qb Tg Z) Z (Qa (Qk Yt Z (h2.one 1 Z)) Z (Qa (Yu Z Z) Z (Qc (Qt Z (fun hc2=>?_) (fun hc2=>?_)))))))))))
  ·refine Qe (Qh [true] Z Z (Qa (Qf Z) Z (Qc (Qv (Qm Z Z E ?_)))))
   cases x;cases y;simp_all
  ·refine Qo (Qe (Qh [true] Z Z (Qa (Qf Z) Z (Qc (Qv (Qm Z Z E ?_))))))
   cases x;cases y;simp_all

set_option maxRecDepth 20000 in
theorem c_eqRecord (x : Record) (y : Record) (w : World)  : Ct Tryz.prog 138 [.agg (Enc.enc x).toArray,.agg (Enc.enc y).toArray] w (fun v _=>v = .bool (decide (x = y))):=by
 refine Ym Tryz.func138 Z Tryz.ntmps138 Z ?_
 refine Q8 [(0,.agg (Enc.enc x).toArray),(1,.agg (Enc.enc y).toArray)] ⟨Z,Z,trivial⟩ ?_
 have E : Ext w w:=Ext.refl w
 refine Qe (Qh [false,false,true] Z Z (Y1 Z Z (fun b1 w1 e1 s1 h1=>?_)))
 have g_b1 : w.heap.size ≤ b1:=by have:=E.size;omega
 have y_b1:=h1.lt
 replace E:=E.trans e1
 have z1:=e1.size
 refine Y1 Z Z (fun b2 w2 e2 s2 h2=>?_)
 have g_b2 : w.heap.size ≤ b2:=by have:=E.size;omega
 have y_b2:=h2.lt
 replace E:=E.trans e2;replace h1:=h1.ext e2
 have z2:=e2.size
 refine Qa (Qf Z) Z (Qc (Qe (Qe (Qh [true,true,true,true,true] Z Z (Qa (Qb G5 Z) Z (Qa (Qk Yt Z (h1.one 0 Z)) Z (Qa (Qb G5 Z) Z (Qa (Qk Yt Z (h2.one 0 Z)) Z (Qa (Yu Z Z) Z (Qc (Qt Z (fun hc1=>?_) (fun hc1=>?_))))))))))))
 ·refine Qe (Qh [true] Z Z (Qa (Qf Z) Z (Qc (Qv (Qm Z Z E ?_)))))
  cases x;cases y;simp_all
 ·refine Qo (Qe (Qe (Qh [true,true,true,true,false,true] Z Z (Qa (Qb U6 Z) Z (Qa (Qy Dd Z (h1.part 1 [.int .i64 x.stamp.epoch,.int .i64 x.stamp.turn] Z) Z) Z (Qa (Qb U6 Z) Z (Qa (Qy Dd Z (h2.part 1 [.int .i64 y.stamp.epoch,.int .i64 y.stamp.turn] Z) Z) Z (Qw Tryz.call147 Z (c_eqStamp x.stamp y.stamp _ ) Z (fun _ w3 e3 hv=>?_)))))))))
  subst hv
  replace E:=E.trans e3;replace h1:=h1.ext e3;replace h2:=h2.ext e3
  have z3:=e3.size
  refine Qa (Yy Z) Z (Qc (Qt Z (fun hc2=>?_) (fun hc2=>?_)))
  ·refine Qe (Qh [true] Z Z (Qa (Qf Z) Z (Qc (Qv (Qm Z Z E ?_)))))
   cases x;cases y;simp_all
  ·refine Qo (Qe (Qe (Qh [true,true,true,true,true] Z Z (Qa (Qb Tf Z) Z (Qa (Qk Yt Z (h1.one 3 Z)) Z (Qa (Qb Tf Z) Z (Qa (Qk Yt Z (h2.one 3 Z)) Z (Qa (Yu Z Z) Z (Qc (Qt Z (fun hc3=>?_) (fun hc3=>?_)))))))))))
   ·refine Qe (Qh [true] Z Z (Qa (Qf Z) Z (Qc (Qv (Qm Z Z E ?_)))))
    cases x;cases y;simp_all
   ·refine Qo (Qe (Qe (Qh [true,true,true,true,true] Z Z (Qa (Qb C4 Z) Z (Qa (Qk Yt Z (h1.one 4 Z)) Z (Qa (Qb C4 Z) Z (Qa (Qk Yt Z (h2.one 4 Z)) Z (Qa (Yu Z Z) Z (Qc (Qt Z (fun hc4=>?_) (fun hc4=>?_)))))))))))
    ·refine Qe (Qh [true] Z Z (Qa (Qf Z) Z (Qc (Qv (Qm Z Z E ?_)))))
     cases x;cases y;simp_all
    ·refine Qo (Qe (Qh [true] Z Z (Qa (Qf Z) Z (Qc (Qv (Qm Z Z E ?_))))))
     cases x;cases y;simp_all

set_option maxRecDepth 20000 in
theorem c_toDone (x : Done) (w : World)  : Ct Tryz.prog 133 [.agg (Enc.enc x).toArray] w (fun v _=>v = .agg (Enc.enc x).toArray):=by
 refine Ym Tryz.func133 Z Tryz.ntmps133 Z ?_
 refine Q8 [(0,.agg (Enc.enc x).toArray)] ⟨Z,trivial⟩ ?_
 have E : Ext w w:=Ext.refl w
 refine Qe (Qh [false,false] Z Z (Y1 Z Z (fun b1 w1 e1 s1 h1=>?_)))
 have g_b1 : w.heap.size ≤ b1:=by have:=E.size;omega
 have y_b1:=h1.lt
 replace E:=E.trans e1
 have z1:=e1.size
 refine Yo Tp Z (fun b2 w2 e2 s2 h2=>?_)
 have g_b2 : w.heap.size ≤ b2:=by have:=E.size;omega
 have y_b2:=h2.lt
 replace E:=E.trans e2;replace h1:=h1.ext e2
 have z2:=e2.size
 refine Qc (Qe (Qh [false] Z Z (Yo Tp Z (fun b3 w3 e3 s3 h3=>?_))))
 have g_b3 : w.heap.size ≤ b3:=by have:=E.size;omega
 have y_b3:=h3.lt
 replace E:=E.trans e3;replace h1:=h1.ext e3;replace h2:=h2.ext e3
 have z3:=e3.size
 refine Qc (Qe (Qh [true,true,true,false] Z Z (Qa (Qb fl182_0 Z) Z (Qa (Qk Yt Z (h1.one 0 Z)) Z (Qa (Qb Vy Z) Z (Yj (cs':=[.int .i64 x.epoch,.bool false]) Yt Z Z Z h3 (Nat.le_of_ble_eq_true Z) Z (fun w4 m1 h3'=>?_)))))))
 replace h3:=h3'
 replace E:=E.step m1 (fun g hg=>by cases hg;omega);replace h1:=h1.mod m1 (fun g hg=>by cases hg;omega);replace h2:=h2.mod m1 (fun g hg=>by cases hg;omega)
 have z4:=m1.size
 refine Qc (Qe (Qh [true,true,true,false] Z Z (Qa (Qb fl182_1 Z) Z (Qa (Qk Hs Z (h1.one 1 Z)) Z (Qa (Qb Ah Z) Z (Yj (cs':=[.int .i64 x.epoch,.bool x.capped]) Hs Z Z Z h3 (Nat.le_of_ble_eq_true Z) Z (fun w5 m2 h3'=>?_)))))))
 replace h3:=h3'
 replace E:=E.step m2 (fun g hg=>by cases hg;omega);replace h1:=h1.mod m2 (fun g hg=>by cases hg;omega);replace h2:=h2.mod m2 (fun g hg=>by cases hg;omega)
 have z5:=m2.size
 refine Qc (Qe (Qh [true,false] Z Z (Qa (Qy Tp Z h3.at Z) Z (Q4 (cs':=[.int .i64 x.epoch,.bool x.capped]) Tp Z Z Z Z h2 (Nat.le_of_ble_eq_true Z) Z (fun w6 m3 h2'=>?_)))))
 replace h2:=h2'
 replace E:=E.step m3 (fun g hg=>by cases hg;omega);replace h1:=h1.mod m3 (fun g hg=>by cases hg;omega);replace h3:=h3.mod m3 (fun g hg=>by cases hg;omega)
 have z6:=m3.size
 refine Qc (Qv (X3 Z Z (Yd Tp h2.at Z) E ?_))
 rfl

set_option maxRecDepth 20000 in
theorem c_eqDone (x : Done) (y : Done) (w : World)  : Ct Tryz.prog 140 [.agg (Enc.enc x).toArray,.agg (Enc.enc y).toArray] w (fun v _=>v = .bool (decide (x = y))):=by
 refine Ym Tryz.func140 Z Tryz.ntmps140 Z ?_
 refine Q8 [(0,.agg (Enc.enc x).toArray),(1,.agg (Enc.enc y).toArray)] ⟨Z,Z,trivial⟩ ?_
 have E : Ext w w:=Ext.refl w
 refine Qe (Qh [false,false,true] Z Z (Y1 Z Z (fun b1 w1 e1 s1 h1=>?_)))
 have g_b1 : w.heap.size ≤ b1:=by have:=E.size;omega
 have y_b1:=h1.lt
 replace E:=E.trans e1
 have z1:=e1.size
 refine Y1 Z Z (fun b2 w2 e2 s2 h2=>?_)
 have g_b2 : w.heap.size ≤ b2:=by have:=E.size;omega
 have y_b2:=h2.lt
 replace E:=E.trans e2;replace h1:=h1.ext e2
 have z2:=e2.size
 refine Qa (Qf Z) Z (Qc (Qe (Qe (Qh [true,true,true,true,true] Z Z (Qa (Qb Vy Z) Z (Qa (Qk Yt Z (h1.one 0 Z)) Z (Qa (Qb Vy Z) Z (Qa (Qk Yt Z (h2.one 0 Z)) Z (Qa (Yu Z Z) Z (Qc (Qt Z (fun hc1=>?_) (fun hc1=>?_))))))))))))
 ·refine Qe (Qh [true] Z Z (Qa (Qf Z) Z (Qc (Qv (Qm Z Z E ?_)))))
  cases x;cases y;simp_all
 ·refine Qo (Qe (Qe (Qh [true,true,true,true,true] Z Z (Qa (Qb Ah Z) Z (Qa (Qk Hs Z (h1.one 1 Z)) Z (Qa (Qb Ah Z) Z (Qa (Qk Hs Z (h2.one 1 Z)) Z (Qa (U8 (Tryz.underlying4) Z Z) Z (Qc (Qt Z (fun hc2=>?_) (fun hc2=>?_)))))))))))
  ·refine Qe (Qh [true] Z Z (Qa (Qf Z) Z (Qc (Qv (Qm Z Z E ?_)))))
   cases x;cases y;simp_all
  ·refine Qo (Qe (Qh [true] Z Z (Qa (Qf Z) Z (Qc (Qv (Qm Z Z E ?_))))))
   cases x;cases y;simp_all

set_option maxRecDepth 20000 in
theorem c_szRecordS (vxs : Value) (xs : List Record) (n : Int) (w : World) (hxs : RdS w vxs xs) (h0 : 0 ≤ n ∧ n ≤ 1048576) : Ct Tryz.prog 94 [vxs,.int .i64 n] w (fun v _=>v = .int .i64 (Uk xs.length n)):=by
 refine Ym Tryz.func94 Z Tryz.ntmps94 Z ?_
 refine Q8 [(0,vxs),(1,.int .i64 n)] ⟨Z,Z,trivial⟩ ?_
 have E : Ext w w:=Ext.refl w
 refine Qe (Qh [true] Z Z (Qa (Qf Z) Z (Qc (Qe (Qh [true,true,true,true,true] Z Z (Qa (Qd Z) Z (Qa (Qd Z) Z (Qa (Yc Tryz.underlying103 Z (hxs.ext E).len) Z (Qa (K6 Z Z Z) Z (Qa (Qf Z) Z (Qc (Qe (Qe (Qh [true,true] Z Z (Qa (Qd Z) Z (Qa (Yi Z Z) Z (Qc (Qt Z (fun hc1=>?_) (fun hc1=>?_)))))))))))))))))))
 ·refine Qe (Qh [true] Z Z (Qa (Qf Z) Z (Qc (Qv (Qm Z Z E ?_)))))
  exact Bj h0.2 h0.1 hxs.1 hc1
 ·refine Qo (Qe (Qh [true,true] Z Z (Qa (Qd Z) Z (Qa (Qf Z) Z (Qc (Qv (Qm Z Z E ?_)))))))
  exact Cv h0.2 h0.1 hxs.1 hc1

set_option maxRecDepth 20000 in
theorem c_toRecordS (vxs : Value) (xs : List Record) (w : World) (hxs : RdS w vxs xs) (hb : xs.length ≤ 1048576) : Ct Tryz.prog 108 [vxs] w (fun v w'=>Own w' w.heap.size w'.heap.size 5 v (List.flatMap (Enc.enc (α:=Record)) xs)):=by
 refine Ym Tryz.func108 Z Tryz.ntmps108 Z ?_
 refine Q8 [(0,vxs)] ⟨Z,trivial⟩ ?_
 have E : Ext w w:=Ext.refl w
 refine Qe (Qh [true] Z Z (Qa (Qf Z) Z (Qc (Qe (Qh [true,true,false,true] Z Z (Qa (Qd Z) Z (Qa (Yc Tryz.underlying103 Z (hxs.ext E).len) Z (Hp (m:=xs.length) Kn Z Z (by omega) (by decide) Z (fun b1 w1 e1 s1 h1=>?_)))))))))
 have g_b1 : w.heap.size ≤ b1:=by have:=E.size;omega
 have y_b1:=h1.lt
 replace E:=E.trans e1
 have z1:=e1.size
 refine Qa (Qf Z) Z (Qc (Qe (Qe (Qh [true] Z Z (Qa (Qf Z) Z (Qc (Q0 (Yp (fun (k : Nat)=>[(0,vxs),(2,.slice none 0 0),(3,.slice (some ⟨b1,0,none⟩) xs.length xs.length),(4,.int .i64 ((k : Nat) : Int))]) (fun (k : Nat) w'=>Ext w w' ∧ w1.heap.size ≤ w'.heap.size ∧ k ≤ xs.length ∧ Blk w' b1 (mk xs [.int .i64 0,.int .i64 0,.int .i64 0,.int .i64 0,.int .i64 0] k xs.length)) (fun (k : Nat)=>xs.length - k) 0 ⟨Z,Z,Z,Z,trivial⟩ ⟨E,Nat.le_refl _,Nat.zero_le _,(H4 xs [.int .i64 0,.int .i64 0,.int .i64 0,.int .i64 0,.int .i64 0] xs.length) ▸ h1⟩ ?_))))))))
 clear E h1
 rintro k w2 ⟨E,z2,hk,h1⟩
 refine Qe (Qe (Qh [true,true,true,true] Z Z (Qa (Qd Z) Z (Qa (Qd Z) Z (Qa (Yc Tryz.underlying103 Z (hxs.ext E).len) Z (Qa (Yi Z Z) Z (Qc (Qt Z (fun hc1=>?_) (fun hc1=>?_)))))))))
 ·have hc1n : k < xs.length:=by first | (have h:=of_decide_eq_true hc1;omega) | (have h:=hc1;simp at h;omega)
  refine Qo (Qe (Q0 (Qh [true,true,true,true,true,true,false,true,false] Z Z (Qa (Qd Z) Z (Qa (Qd Z) Z (Qa (Qd Z) Z (Qa (Qd Z) Z ?_)))))))
  have hi1 : k < xs.length:=(by first | assumption | omega | (simp only [List.length_set];first | assumption | omega) | (simp only [List.getElem_set_self,List.length_set];first | assumption | omega) | (simp only [Yn,Yh,List.length_set];first | assumption | omega))
  refine Qa (Qz (i:=k) sl103 Z Z (hxs.ext E) hi1) Z (Qa (Qy st178 Z ((hxs.ext E).get hi1) Z) Z (Qw Tryz.call131 Z (c_toRecord (xs[k]'hi1) _ ) Z (fun _ w3 e2 hv=>?_)))
  subst hv
  replace E:=E.trans e2;replace h1:=h1.ext e2
  have z3:=e2.size
  refine Qa (Vj Kn Z Z (by first | assumption | omega | (simp only [List.length_set];first | assumption | omega) | (simp only [List.getElem_set_self,List.length_set];first | assumption | omega) | (simp only [Yn,Yh,List.length_set];first | assumption | omega))) Z (Q4 (cs':=mk xs [.int .i64 0,.int .i64 0,.int .i64 0,.int .i64 0,.int .i64 0] (k + 1) xs.length) Ul Z Z Z Z h1 (H6 xs [.int .i64 0,.int .i64 0,.int .i64 0,.int .i64 0,.int .i64 0] Z hc1n hc1n (by rfl)) (H5 xs [.int .i64 0,.int .i64 0,.int .i64 0,.int .i64 0,.int .i64 0] Z hc1n hc1n) (fun w4 m1 h1'=>?_))
  replace h1:=h1'
  replace E:=E.step m1 (fun g hg=>by cases hg;omega)
  have z4:=m1.size
  refine Qc (Q6 (Y0 (Qh [true,true,true] Z Z (Qa (Qd Z) Z (Qa (Ye Z Z (Y3 hc1n hxs.1)) Z (Qa (Qf Z) Z (Qc (Q6 (Yk (k + 1) (by omega) ⟨Z,Z,Z,Z,trivial⟩ ⟨E,(by omega),(by omega),h1⟩)))))))))
 ·have hc1n : ¬ k < xs.length:=by first | (have h:=of_decide_eq_false hc1;omega) | (have h:=hc1;simp at h;omega)
  refine Yq (Q5 (Q3 ?_))
  refine Qe (Qh [true,true] Z Z (Qa (Qd Z) Z (Qa (Qf Z) Z (Qc (Qv (Qm Z Z E ?_))))))
  obtain rfl : k = xs.length:=by omega
  rw [C1] at h1
  exact Own.ofBlk h1 (by omega) (by have:=h1.lt;omega) (Yz xs) hxs.1

set_option maxRecDepth 20000 in
theorem c_eqRecordS (vxs : Value) (xs : List Record) (vys : Value) (ys : List Record) (w : World) (hxs : RdS w vxs xs) (hys : RdS w vys ys) : Ct Tryz.prog 121 [vxs,vys] w (fun v _=>v = .bool (decide (xs = ys))):=by
 refine Ym Tryz.func121 Z Tryz.ntmps121 Z ?_
 refine Q8 [(0,vxs),(1,vys)] ⟨Z,Z,trivial⟩ ?_
 have E : Ext w w:=Ext.refl w
 refine Qe (Qh [true] Z Z (Qa (Qf Z) Z (Qc (Qe (Qe (Qh [true,true,true,true,true] Z Z (Qa (Qd Z) Z (Qa (Yc Tryz.underlying66 Z (hxs.ext E).len) Z (Qa (Qd Z) Z (Qa (Yc Tryz.underlying66 Z (hys.ext E).len) Z (Qa (Yu Z Z) Z (Qc (Qt Z (fun hc1=>?_) (fun hc1=>?_))))))))))))))
 ·have hc1n : ¬ xs.length = ys.length:=by first | (have h:=of_decide_eq_true hc1;omega) | (have h:=hc1;simp at h;omega)
  refine Qe (Qh [true] Z Z (Qa (Qf Z) Z (Qc (Qv (Qm Z Z E ?_)))))
  simp [Hl hc1n]
 ·have hc1n : xs.length = ys.length:=by first | (have h:=of_decide_eq_false hc1;omega) | (have h:=hc1;simp at h;omega)
  refine Qo (Qe (Qe (Qh [true] Z Z (Qa (Qf Z) Z (Qc (Q0 (Yp (fun (k : Nat)=>[(0,vxs),(1,vys),(4,.bool false),(5,.int .i64 ((k : Nat) : Int))]) (fun (k : Nat) w'=>Ext w w' ∧ w.heap.size ≤ w'.heap.size ∧ k ≤ xs.length ∧ xs.take k = ys.take k) (fun (k : Nat)=>xs.length - k) 0 ⟨Z,Z,Z,Z,trivial⟩ ⟨E,Nat.le_refl _,Nat.zero_le _,Z⟩ ?_)))))))
  clear E
  rintro k w1 ⟨E,z1,hk,hp⟩
  refine Qe (Qe (Qh [true,true,true,true] Z Z (Qa (Qd Z) Z (Qa (Qd Z) Z (Qa (Yc Tryz.underlying66 Z (hxs.ext E).len) Z (Qa (Yi Z Z) Z (Qc (Qt Z (fun hc2=>?_) (fun hc2=>?_)))))))))
  ·have hc2n : k < xs.length:=by first | (have h:=of_decide_eq_true hc2;omega) | (have h:=hc2;simp at h;omega)
   refine Qo (Qe (Q0 (Qe (Xx Xs [(0,true),(1,true),(2,true),(3,true),(4,true),(5,true),(6,true),(7,true),(8,false),(9,true)] (by decide +kernel) Z (fun w2 e1=>?_)))))
   replace E:=E.trans e1
   have z2:=e1.size
   refine Qa (Qd Z) Z (Qa (Qd Z) Z ?_)
   have hi1 : k < xs.length:=(by first | assumption | omega | (simp only [List.length_set];first | assumption | omega) | (simp only [List.getElem_set_self,List.length_set];first | assumption | omega) | (simp only [Yn,Yh,List.length_set];first | assumption | omega))
   refine Qa (Qz (i:=k) Kn Z Z (hxs.ext E) hi1) Z (Qa (Qy Ul Z ((hxs.ext E).get hi1) Z) Z (Qa (Qd Z) Z (Qa (Qd Z) Z ?_)))
   have hi2 : k < ys.length:=(by first | assumption | omega | (simp only [List.length_set];first | assumption | omega) | (simp only [List.getElem_set_self,List.length_set];first | assumption | omega) | (simp only [Yn,Yh,List.length_set];first | assumption | omega))
   refine Qa (Qz (i:=k) Kn Z Z (hys.ext E) hi2) Z (Qa (Qy Ul Z ((hys.ext E).get hi2) Z) Z (Qw Tryz.call138 Z (c_eqRecord (xs[k]'hi1) (ys[k]'hi2) _ ) Z (fun _ w3 e2 hv=>?_)))
   subst hv
   replace E:=E.trans e2
   have z3:=e2.size
   refine Qa (Yy Z) Z (Qc (Qt Z (fun hc3=>?_) (fun hc3=>?_)))
   ·refine Qe (Qh [true] Z Z (Qa (Qf Z) Z (Qc (Qv (Q2 (Yv (Q2 (Qm Z Z E ?_))))))))
    exact Hm (by omega) (by omega) (by simpa using hc3)
   ·refine Qo (Q6 (Y0 (Qh [true,true,true] Z Z (Qa (Qd Z) Z (Qa (Ye Z Z (Y3 hc2n hxs.1)) Z (Qa (Qf Z) Z (Qc (Q6 (Yk (k + 1) (by omega) ⟨Z,Z,Z,Z,trivial⟩ ⟨E,(by omega),(by omega),Vi hp (by assumption) (by omega) (by simpa using hc3)⟩)))))))))
  ·have hc2n : ¬ k < xs.length:=by first | (have h:=of_decide_eq_false hc2;omega) | (have h:=hc2;simp at h;omega)
   refine Yq (Q5 (Q3 ?_))
   refine Qe (Qh [true] Z Z (Qa (Qf Z) Z (Qc (Qv (Qm Z Z E ?_)))))
   exact Gc hp hc1n (by omega)

set_option maxRecDepth 20000 in
theorem c_szBoolS (vxs : Value) (xs : List Bool) (n : Int) (w : World) (hxs : RdS w vxs xs) (h0 : 0 ≤ n ∧ n ≤ 1048576) : Ct Tryz.prog 97 [vxs,.int .i64 n] w (fun v _=>v = .int .i64 (Uk xs.length n)):=by
 refine Ym Tryz.func97 Z Tryz.ntmps97 Z ?_
 refine Q8 [(0,vxs),(1,.int .i64 n)] ⟨Z,Z,trivial⟩ ?_
 have E : Ext w w:=Ext.refl w
 refine Qe (Qh [true] Z Z (Qa (Qf Z) Z (Qc (Qe (Qh [true,true,true,true,true] Z Z (Qa (Qd Z) Z (Qa (Qd Z) Z (Qa (Yc Tryz.underlying77 Z (hxs.ext E).len) Z (Qa (K6 Z Z Z) Z (Qa (Qf Z) Z (Qc (Qe (Qe (Qh [true,true] Z Z (Qa (Qd Z) Z (Qa (Yi Z Z) Z (Qc (Qt Z (fun hc1=>?_) (fun hc1=>?_)))))))))))))))))))
 ·refine Qe (Qh [true] Z Z (Qa (Qf Z) Z (Qc (Qv (Qm Z Z E ?_)))))
  exact Bj h0.2 h0.1 hxs.1 hc1
 ·refine Qo (Qe (Qh [true,true] Z Z (Qa (Qd Z) Z (Qa (Qf Z) Z (Qc (Qv (Qm Z Z E ?_)))))))
  exact Cv h0.2 h0.1 hxs.1 hc1

set_option maxRecDepth 20000 in
theorem c_toBoolS (vxs : Value) (xs : List Bool) (w : World) (hxs : RdS w vxs xs) (hb : xs.length ≤ 1048576) : Ct Tryz.prog 111 [vxs] w (fun v w'=>Own w' w.heap.size w'.heap.size 1 v (List.flatMap (Enc.enc (α:=Bool)) xs)):=by
 refine Ym Tryz.func111 Z Tryz.ntmps111 Z ?_
 refine Q8 [(0,vxs)] ⟨Z,trivial⟩ ?_
 have E : Ext w w:=Ext.refl w
 refine Qe (Qh [true] Z Z (Qa (Qf Z) Z (Qc (Qe (Qh [true,true,false,true] Z Z (Qa (Qd Z) Z (Qa (Yc Tryz.underlying77 Z (hxs.ext E).len) Z (Hp (m:=xs.length) Ap Z Z (by omega) (by decide) Z (fun b1 w1 e1 s1 h1=>?_)))))))))
 have g_b1 : w.heap.size ≤ b1:=by have:=E.size;omega
 have y_b1:=h1.lt
 replace E:=E.trans e1
 have z1:=e1.size
 refine Qa (Qf Z) Z (Qc (Qe (Qe (Qh [true] Z Z (Qa (Qf Z) Z (Qc (Q0 (Yp (fun (k : Nat)=>[(0,vxs),(2,.slice none 0 0),(3,.slice (some ⟨b1,0,none⟩) xs.length xs.length),(4,.int .i64 ((k : Nat) : Int))]) (fun (k : Nat) w'=>Ext w w' ∧ w1.heap.size ≤ w'.heap.size ∧ k ≤ xs.length ∧ Blk w' b1 (mk xs [.bool false] k xs.length)) (fun (k : Nat)=>xs.length - k) 0 ⟨Z,Z,Z,Z,trivial⟩ ⟨E,Nat.le_refl _,Nat.zero_le _,(H4 xs [.bool false] xs.length) ▸ h1⟩ ?_))))))))
 clear E h1
 rintro k w2 ⟨E,z2,hk,h1⟩
 refine Qe (Qe (Qh [true,true,true,true] Z Z (Qa (Qd Z) Z (Qa (Qd Z) Z (Qa (Yc Tryz.underlying77 Z (hxs.ext E).len) Z (Qa (Yi Z Z) Z (Qc (Qt Z (fun hc1=>?_) (fun hc1=>?_)))))))))
 ·have hc1n : k < xs.length:=by first | (have h:=of_decide_eq_true hc1;omega) | (have h:=hc1;simp at h;omega)
  refine Qo (Qe (Q0 (Qh [true,true,true,true,true,true,true,false] Z Z (Qa (Qd Z) Z (Qa (Qd Z) Z (Qa (Qd Z) Z (Qa (Qd Z) Z ?_)))))))
  have hi1 : k < xs.length:=(by first | assumption | omega | (simp only [List.length_set];first | assumption | omega) | (simp only [List.getElem_set_self,List.length_set];first | assumption | omega) | (simp only [Yn,Yh,List.length_set];first | assumption | omega))
  refine Qa (Qz (i:=k) Ap Z Z (hxs.ext E) hi1) Z (Qa (Qk Hs Z (((hxs.ext E).get hi1).one 0 Z)) Z (Qa (Vj Ap Z Z (by first | assumption | omega | (simp only [List.length_set];first | assumption | omega) | (simp only [List.getElem_set_self,List.length_set];first | assumption | omega) | (simp only [Yn,Yh,List.length_set];first | assumption | omega))) Z (Yj (cs':=mk xs [.bool false] (k + 1) xs.length) Hs Z Z Z h1 (H6 xs [.bool false] Z hc1n hc1n (by rfl)) (H5 xs [.bool false] Z hc1n hc1n) (fun w3 m1 h1'=>?_))))
  replace h1:=h1'
  replace E:=E.step m1 (fun g hg=>by cases hg;omega)
  have z3:=m1.size
  refine Qc (Q6 (Y0 (Qh [true,true,true] Z Z (Qa (Qd Z) Z (Qa (Ye Z Z (Y3 hc1n hxs.1)) Z (Qa (Qf Z) Z (Qc (Q6 (Yk (k + 1) (by omega) ⟨Z,Z,Z,Z,trivial⟩ ⟨E,(by omega),(by omega),h1⟩)))))))))
 ·have hc1n : ¬ k < xs.length:=by first | (have h:=of_decide_eq_false hc1;omega) | (have h:=hc1;simp at h;omega)
  refine Yq (Q5 (Q3 ?_))
  refine Qe (Qh [true,true] Z Z (Qa (Qd Z) Z (Qa (Qf Z) Z (Qc (Qv (Qm Z Z E ?_))))))
  obtain rfl : k = xs.length:=by omega
  rw [C1] at h1
  exact Own.ofBlk h1 (by omega) (by have:=h1.lt;omega) (Yz xs) hxs.1

set_option maxRecDepth 20000 in
theorem c_eqBoolS (vxs : Value) (xs : List Bool) (vys : Value) (ys : List Bool) (w : World) (hxs : RdS w vxs xs) (hys : RdS w vys ys) : Ct Tryz.prog 124 [vxs,vys] w (fun v _=>v = .bool (decide (xs = ys))):=by
 refine Ym Tryz.func124 Z Tryz.ntmps124 Z ?_
 refine Q8 [(0,vxs),(1,vys)] ⟨Z,Z,trivial⟩ ?_
 have E : Ext w w:=Ext.refl w
 refine Qe (Qh [true] Z Z (Qa (Qf Z) Z (Qc (Qe (Qe (Qh [true,true,true,true,true] Z Z (Qa (Qd Z) Z (Qa (Yc Tryz.underlying77 Z (hxs.ext E).len) Z (Qa (Qd Z) Z (Qa (Yc Tryz.underlying77 Z (hys.ext E).len) Z (Qa (Yu Z Z) Z (Qc (Qt Z (fun hc1=>?_) (fun hc1=>?_))))))))))))))
 ·have hc1n : ¬ xs.length = ys.length:=by first | (have h:=of_decide_eq_true hc1;omega) | (have h:=hc1;simp at h;omega)
  refine Qe (Qh [true] Z Z (Qa (Qf Z) Z (Qc (Qv (Qm Z Z E ?_)))))
  simp [Hl hc1n]
 ·have hc1n : xs.length = ys.length:=by first | (have h:=of_decide_eq_false hc1;omega) | (have h:=hc1;simp at h;omega)
  refine Qo (Qe (Qe (Qh [true] Z Z (Qa (Qf Z) Z (Qc (Q0 (Yp (fun (k : Nat)=>[(0,vxs),(1,vys),(4,.bool false),(5,.int .i64 ((k : Nat) : Int))]) (fun (k : Nat) w'=>Ext w w' ∧ w.heap.size ≤ w'.heap.size ∧ k ≤ xs.length ∧ xs.take k = ys.take k) (fun (k : Nat)=>xs.length - k) 0 ⟨Z,Z,Z,Z,trivial⟩ ⟨E,Nat.le_refl _,Nat.zero_le _,Z⟩ ?_)))))))
  clear E
  rintro k w1 ⟨E,z1,hk,hp⟩
  refine Qe (Qe (Qh [true,true,true,true] Z Z (Qa (Qd Z) Z (Qa (Qd Z) Z (Qa (Yc Tryz.underlying77 Z (hxs.ext E).len) Z (Qa (Yi Z Z) Z (Qc (Qt Z (fun hc2=>?_) (fun hc2=>?_)))))))))
  ·have hc2n : k < xs.length:=by first | (have h:=of_decide_eq_true hc2;omega) | (have h:=hc2;simp at h;omega)
   refine Qo (Qe (Q0 (Qe (Xx Xs [(0,true),(1,true),(2,true),(3,true),(4,true),(5,true),(6,true),(7,true),(8,true)] (by decide +kernel) Z (fun w2 e1=>?_)))))
   replace E:=E.trans e1
   have z2:=e1.size
   refine Qa (Qd Z) Z (Qa (Qd Z) Z ?_)
   have hi1 : k < xs.length:=(by first | assumption | omega | (simp only [List.length_set];first | assumption | omega) | (simp only [List.getElem_set_self,List.length_set];first | assumption | omega) | (simp only [Yn,Yh,List.length_set];first | assumption | omega))
   refine Qa (Qz (i:=k) Ap Z Z (hxs.ext E) hi1) Z (Qa (Qk Hs Z (((hxs.ext E).get hi1).one 0 Z)) Z (Qa (Qd Z) Z (Qa (Qd Z) Z ?_)))
   have hi2 : k < ys.length:=(by first | assumption | omega | (simp only [List.length_set];first | assumption | omega) | (simp only [List.getElem_set_self,List.length_set];first | assumption | omega) | (simp only [Yn,Yh,List.length_set];first | assumption | omega))
   refine Qa (Qz (i:=k) Ap Z Z (hys.ext E) hi2) Z (Qa (Qk Hs Z (((hys.ext E).get hi2).one 0 Z)) Z (Qa (U8 (Tryz.underlying4) Z Z) Z (Qc (Qt Z (fun hc3=>?_) (fun hc3=>?_)))))
   ·refine Qe (Qh [true] Z Z (Qa (Qf Z) Z (Qc (Qv (Q2 (Yv (Q2 (Qm Z Z E ?_))))))))
    exact Hm (by omega) (by omega) (by simpa using hc3)
   ·refine Qo (Q6 (Y0 (Qh [true,true,true] Z Z (Qa (Qd Z) Z (Qa (Ye Z Z (Y3 hc2n hxs.1)) Z (Qa (Qf Z) Z (Qc (Q6 (Yk (k + 1) (by omega) ⟨Z,Z,Z,Z,trivial⟩ ⟨E,(by omega),(by omega),Vi hp (by assumption) (by omega) (by simpa using hc3)⟩)))))))))
  ·have hc2n : ¬ k < xs.length:=by first | (have h:=of_decide_eq_false hc2;omega) | (have h:=hc2;simp at h;omega)
   refine Yq (Q5 (Q3 ?_))
   refine Qe (Qh [true] Z Z (Qa (Qf Z) Z (Qc (Qv (Qm Z Z E ?_)))))
   exact Gc hp hc1n (by omega)

set_option maxRecDepth 20000 in
theorem c_szDoneS (vxs : Value) (xs : List Done) (n : Int) (w : World) (hxs : RdS w vxs xs) (h0 : 0 ≤ n ∧ n ≤ 1048576) : Ct Tryz.prog 98 [vxs,.int .i64 n] w (fun v _=>v = .int .i64 (Uk xs.length n)):=by
 refine Ym Tryz.func98 Z Tryz.ntmps98 Z ?_
 refine Q8 [(0,vxs),(1,.int .i64 n)] ⟨Z,Z,trivial⟩ ?_
 have E : Ext w w:=Ext.refl w
 refine Qe (Qh [true] Z Z (Qa (Qf Z) Z (Qc (Qe (Qh [true,true,true,true,true] Z Z (Qa (Qd Z) Z (Qa (Qd Z) Z (Qa (Yc Tryz.underlying105 Z (hxs.ext E).len) Z (Qa (K6 Z Z Z) Z (Qa (Qf Z) Z (Qc (Qe (Qe (Qh [true,true] Z Z (Qa (Qd Z) Z (Qa (Yi Z Z) Z (Qc (Qt Z (fun hc1=>?_) (fun hc1=>?_)))))))))))))))))))
 ·refine Qe (Qh [true] Z Z (Qa (Qf Z) Z (Qc (Qv (Qm Z Z E ?_)))))
  exact Bj h0.2 h0.1 hxs.1 hc1
 ·refine Qo (Qe (Qh [true,true] Z Z (Qa (Qd Z) Z (Qa (Qf Z) Z (Qc (Qv (Qm Z Z E ?_)))))))
  exact Cv h0.2 h0.1 hxs.1 hc1

set_option maxRecDepth 20000 in
theorem c_toDoneS (vxs : Value) (xs : List Done) (w : World) (hxs : RdS w vxs xs) (hb : xs.length ≤ 1048576) : Ct Tryz.prog 112 [vxs] w (fun v w'=>Own w' w.heap.size w'.heap.size 2 v (List.flatMap (Enc.enc (α:=Done)) xs)):=by
 refine Ym Tryz.func112 Z Tryz.ntmps112 Z ?_
 refine Q8 [(0,vxs)] ⟨Z,trivial⟩ ?_
 have E : Ext w w:=Ext.refl w
 refine Qe (Qh [true] Z Z (Qa (Qf Z) Z (Qc (Qe (Qh [true,true,false,true] Z Z (Qa (Qd Z) Z (Qa (Yc Tryz.underlying105 Z (hxs.ext E).len) Z (Hp (m:=xs.length) T1 Z Z (by omega) (by decide) Z (fun b1 w1 e1 s1 h1=>?_)))))))))
 have g_b1 : w.heap.size ≤ b1:=by have:=E.size;omega
 have y_b1:=h1.lt
 replace E:=E.trans e1
 have z1:=e1.size
 refine Qa (Qf Z) Z (Qc (Qe (Qe (Qh [true] Z Z (Qa (Qf Z) Z (Qc (Q0 (Yp (fun (k : Nat)=>[(0,vxs),(2,.slice none 0 0),(3,.slice (some ⟨b1,0,none⟩) xs.length xs.length),(4,.int .i64 ((k : Nat) : Int))]) (fun (k : Nat) w'=>Ext w w' ∧ w1.heap.size ≤ w'.heap.size ∧ k ≤ xs.length ∧ Blk w' b1 (mk xs [.int .i64 0,.bool false] k xs.length)) (fun (k : Nat)=>xs.length - k) 0 ⟨Z,Z,Z,Z,trivial⟩ ⟨E,Nat.le_refl _,Nat.zero_le _,(H4 xs [.int .i64 0,.bool false] xs.length) ▸ h1⟩ ?_))))))))
 clear E h1
 rintro k w2 ⟨E,z2,hk,h1⟩
 refine Qe (Qe (Qh [true,true,true,true] Z Z (Qa (Qd Z) Z (Qa (Qd Z) Z (Qa (Yc Tryz.underlying105 Z (hxs.ext E).len) Z (Qa (Yi Z Z) Z (Qc (Qt Z (fun hc1=>?_) (fun hc1=>?_)))))))))
 ·have hc1n : k < xs.length:=by first | (have h:=of_decide_eq_true hc1;omega) | (have h:=hc1;simp at h;omega)
  refine Qo (Qe (Q0 (Qh [true,true,true,true,true,true,false,true,false] Z Z (Qa (Qd Z) Z (Qa (Qd Z) Z (Qa (Qd Z) Z (Qa (Qd Z) Z ?_)))))))
  have hi1 : k < xs.length:=(by first | assumption | omega | (simp only [List.length_set];first | assumption | omega) | (simp only [List.getElem_set_self,List.length_set];first | assumption | omega) | (simp only [Yn,Yh,List.length_set];first | assumption | omega))
  refine Qa (Qz (i:=k) sl105 Z Z (hxs.ext E) hi1) Z (Qa (Qy st182 Z ((hxs.ext E).get hi1) Z) Z (Qw Tryz.call133 Z (c_toDone (xs[k]'hi1) _ ) Z (fun _ w3 e2 hv=>?_)))
  subst hv
  replace E:=E.trans e2;replace h1:=h1.ext e2
  have z3:=e2.size
  refine Qa (Vj T1 Z Z (by first | assumption | omega | (simp only [List.length_set];first | assumption | omega) | (simp only [List.getElem_set_self,List.length_set];first | assumption | omega) | (simp only [Yn,Yh,List.length_set];first | assumption | omega))) Z (Q4 (cs':=mk xs [.int .i64 0,.bool false] (k + 1) xs.length) Tp Z Z Z Z h1 (H6 xs [.int .i64 0,.bool false] Z hc1n hc1n (by rfl)) (H5 xs [.int .i64 0,.bool false] Z hc1n hc1n) (fun w4 m1 h1'=>?_))
  replace h1:=h1'
  replace E:=E.step m1 (fun g hg=>by cases hg;omega)
  have z4:=m1.size
  refine Qc (Q6 (Y0 (Qh [true,true,true] Z Z (Qa (Qd Z) Z (Qa (Ye Z Z (Y3 hc1n hxs.1)) Z (Qa (Qf Z) Z (Qc (Q6 (Yk (k + 1) (by omega) ⟨Z,Z,Z,Z,trivial⟩ ⟨E,(by omega),(by omega),h1⟩)))))))))
 ·have hc1n : ¬ k < xs.length:=by first | (have h:=of_decide_eq_false hc1;omega) | (have h:=hc1;simp at h;omega)
  refine Yq (Q5 (Q3 ?_))
  refine Qe (Qh [true,true] Z Z (Qa (Qd Z) Z (Qa (Qf Z) Z (Qc (Qv (Qm Z Z E ?_))))))
  obtain rfl : k = xs.length:=by omega
  rw [C1] at h1
  exact Own.ofBlk h1 (by omega) (by have:=h1.lt;omega) (Yz xs) hxs.1

set_option maxRecDepth 20000 in
theorem c_eqDoneS (vxs : Value) (xs : List Done) (vys : Value) (ys : List Done) (w : World) (hxs : RdS w vxs xs) (hys : RdS w vys ys) : Ct Tryz.prog 125 [vxs,vys] w (fun v _=>v = .bool (decide (xs = ys))):=by
 refine Ym Tryz.func125 Z Tryz.ntmps125 Z ?_
 refine Q8 [(0,vxs),(1,vys)] ⟨Z,Z,trivial⟩ ?_
 have E : Ext w w:=Ext.refl w
 refine Qe (Qh [true] Z Z (Qa (Qf Z) Z (Qc (Qe (Qe (Qh [true,true,true,true,true] Z Z (Qa (Qd Z) Z (Qa (Yc Tryz.underlying78 Z (hxs.ext E).len) Z (Qa (Qd Z) Z (Qa (Yc Tryz.underlying78 Z (hys.ext E).len) Z (Qa (Yu Z Z) Z (Qc (Qt Z (fun hc1=>?_) (fun hc1=>?_))))))))))))))
 ·have hc1n : ¬ xs.length = ys.length:=by first | (have h:=of_decide_eq_true hc1;omega) | (have h:=hc1;simp at h;omega)
  refine Qe (Qh [true] Z Z (Qa (Qf Z) Z (Qc (Qv (Qm Z Z E ?_)))))
  simp [Hl hc1n]
 ·have hc1n : xs.length = ys.length:=by first | (have h:=of_decide_eq_false hc1;omega) | (have h:=hc1;simp at h;omega)
  refine Qo (Qe (Qe (Qh [true] Z Z (Qa (Qf Z) Z (Qc (Q0 (Yp (fun (k : Nat)=>[(0,vxs),(1,vys),(4,.bool false),(5,.int .i64 ((k : Nat) : Int))]) (fun (k : Nat) w'=>Ext w w' ∧ w.heap.size ≤ w'.heap.size ∧ k ≤ xs.length ∧ xs.take k = ys.take k) (fun (k : Nat)=>xs.length - k) 0 ⟨Z,Z,Z,Z,trivial⟩ ⟨E,Nat.le_refl _,Nat.zero_le _,Z⟩ ?_)))))))
  clear E
  rintro k w1 ⟨E,z1,hk,hp⟩
  refine Qe (Qe (Qh [true,true,true,true] Z Z (Qa (Qd Z) Z (Qa (Qd Z) Z (Qa (Yc Tryz.underlying78 Z (hxs.ext E).len) Z (Qa (Yi Z Z) Z (Qc (Qt Z (fun hc2=>?_) (fun hc2=>?_)))))))))
  ·have hc2n : k < xs.length:=by first | (have h:=of_decide_eq_true hc2;omega) | (have h:=hc2;simp at h;omega)
   refine Qo (Qe (Q0 (Qe (Xx Xs [(0,true),(1,true),(2,true),(3,true),(4,true),(5,true),(6,true),(7,true),(8,false),(9,true)] (by decide +kernel) Z (fun w2 e1=>?_)))))
   replace E:=E.trans e1
   have z2:=e1.size
   refine Qa (Qd Z) Z (Qa (Qd Z) Z ?_)
   have hi1 : k < xs.length:=(by first | assumption | omega | (simp only [List.length_set];first | assumption | omega) | (simp only [List.getElem_set_self,List.length_set];first | assumption | omega) | (simp only [Yn,Yh,List.length_set];first | assumption | omega))
   refine Qa (Qz (i:=k) T1 Z Z (hxs.ext E) hi1) Z (Qa (Qy Tp Z ((hxs.ext E).get hi1) Z) Z (Qa (Qd Z) Z (Qa (Qd Z) Z ?_)))
   have hi2 : k < ys.length:=(by first | assumption | omega | (simp only [List.length_set];first | assumption | omega) | (simp only [List.getElem_set_self,List.length_set];first | assumption | omega) | (simp only [Yn,Yh,List.length_set];first | assumption | omega))
   refine Qa (Qz (i:=k) T1 Z Z (hys.ext E) hi2) Z (Qa (Qy Tp Z ((hys.ext E).get hi2) Z) Z (Qw Tryz.call140 Z (c_eqDone (xs[k]'hi1) (ys[k]'hi2) _ ) Z (fun _ w3 e2 hv=>?_)))
   subst hv
   replace E:=E.trans e2
   have z3:=e2.size
   refine Qa (Yy Z) Z (Qc (Qt Z (fun hc3=>?_) (fun hc3=>?_)))
   ·refine Qe (Qh [true] Z Z (Qa (Qf Z) Z (Qc (Qv (Q2 (Yv (Q2 (Qm Z Z E ?_))))))))
    exact Hm (by omega) (by omega) (by simpa using hc3)
   ·refine Qo (Q6 (Y0 (Qh [true,true,true] Z Z (Qa (Qd Z) Z (Qa (Ye Z Z (Y3 hc2n hxs.1)) Z (Qa (Qf Z) Z (Qc (Q6 (Yk (k + 1) (by omega) ⟨Z,Z,Z,Z,trivial⟩ ⟨E,(by omega),(by omega),Vi hp (by assumption) (by omega) (by simpa using hc3)⟩)))))))))
  ·have hc2n : ¬ k < xs.length:=by first | (have h:=of_decide_eq_false hc2;omega) | (have h:=hc2;simp at h;omega)
   refine Yq (Q5 (Q3 ?_))
   refine Qe (Qh [true] Z Z (Qa (Qf Z) Z (Qc (Qv (Qm Z Z E ?_)))))
   exact Gc hp hc1n (by omega)

set_option maxHeartbeats 4000000 in
set_option maxRecDepth 20000 in
theorem c_szWorker (cx : List Value) (x : Worker) (n : Int) (w : World) (hx : Dat.R w 0 w.heap.size cx x) (h0 : 0 ≤ n ∧ n ≤ 1048576) : Ct Tryz.prog 54 [.agg cx.toArray,.int .i64 n] w (fun v _=>v = .int .i64 (Uk (Q7 x) n)):=by
 refine Ym Tryz.func54 Z Tryz.ntmps54 Z ?_
 obtain ⟨o1,o2,o3,o4,o5,o6,o7,o8,rfl,hd1,hd2,hd3,hd4,hd5,hd6,hd7,hd8⟩:=Worker.op hx
 refine Q8 [(0,.agg [o1,o2,o3,o4,o5,o6,o7,o8].toArray),(1,.int .i64 n)] ⟨Z,Z,trivial⟩ ?_
 have E : Ext w w:=Ext.refl w
 refine Qe (Qh [false,true] Z Z (Y1 Z Z (fun b1 w1 e1 s1 h1=>?_)))
 have g_b1 : w.heap.size ≤ b1:=by have:=E.size;omega
 have y_b1:=h1.lt
 replace E:=E.trans e1
 have z1:=e1.size
 refine Qa (Qf Z) Z (Qc (Qe (Qh [true,true,true,false,true] Z Z (Qa (Qb fl107_0 Z) Z (Qa (Qk Az Z (h1.one 0 Z)) Z (Qa (Qd Z) Z (Qw Tryz.call94 Z (c_szRecordS o1 x.queue n _ (hd1.rd.ext E) (by first | omega | (simp only [Qi];omega) | (rw [Qi];done) | (simp only [Qi];done))) Z (fun _ w2 e2 hv=>?_))))))))
 subst hv
 replace E:=E.trans e2;replace h1:=h1.ext e2
 have z2:=e2.size
 refine Qa (Qf Z) Z (Qc (Qe (Qe (Qh [true,true] Z Z (Qa (Qd Z) Z (Qa (Yi Z Z) Z (Qc (Qt Z (fun hc1=>?_) (fun hc1=>?_)))))))))
 ·have q1:=Uj hc1 (by omega)
  refine Qe (Qh [true] Z Z (Qa (Qf Z) Z (Qc (Qv (Qm Z Z E ?_)))))
  first | exact Kd (by unfold Q7;omega) | exact Ks (by unfold Q7;omega) (by unfold Q7;omega)
 ·have q2:=Ui hc1 (by omega)
  refine Qo (Qe (Qh [true,true,true,false,true] Z Z (Qa (Qb fl107_1 Z) Z (Qa (Qk Az Z (h1.one 1 Z)) Z (Qa (Qd Z) Z (Qw Tryz.call94 Z (c_szRecordS o2 x.staged (Uk x.queue.length n) _ (hd2.rd.ext E) (by first | omega | (simp only [Qi];omega) | (rw [Qi];done) | (simp only [Qi];done))) Z (fun _ w3 e3 hv=>?_)))))))
  subst hv
  replace E:=E.trans e3;replace h1:=h1.ext e3
  have z3:=e3.size
  refine Qa (Qf Z) Z (Qc (Qe (Qe (Qh [true,true] Z Z (Qa (Qd Z) Z (Qa (Yi Z Z) Z (Qc (Qt Z (fun hc2=>?_) (fun hc2=>?_)))))))))
  ·have q3:=Uj hc2 (by omega)
   refine Qe (Qh [true] Z Z (Qa (Qf Z) Z (Qc (Qv (Qm Z Z E ?_)))))
   first | exact Kd (by unfold Q7;omega) | exact Ks (by unfold Q7;omega) (by unfold Q7;omega)
  ·have q4:=Ui hc2 (by omega)
   refine Qo (Qe (Qh [true,true,true,false,true] Z Z (Qa (Qb fl107_2 Z) Z (Qa (Qk Az Z (h1.one 2 Z)) Z (Qa (Qd Z) Z (Qw Tryz.call94 Z (c_szRecordS o3 x.inputs (Uk x.staged.length (Uk x.queue.length n)) _ (hd3.rd.ext E) (by first | omega | (simp only [Qi];omega) | (rw [Qi];done) | (simp only [Qi];done))) Z (fun _ w4 e4 hv=>?_)))))))
   subst hv
   replace E:=E.trans e4;replace h1:=h1.ext e4
   have z4:=e4.size
   refine Qa (Qf Z) Z (Qc (Qe (Qe (Qh [true,true] Z Z (Qa (Qd Z) Z (Qa (Yi Z Z) Z (Qc (Qt Z (fun hc3=>?_) (fun hc3=>?_)))))))))
   ·have q5:=Uj hc3 (by omega)
    refine Qe (Qh [true] Z Z (Qa (Qf Z) Z (Qc (Qv (Qm Z Z E ?_)))))
    first | exact Kd (by unfold Q7;omega) | exact Ks (by unfold Q7;omega) (by unfold Q7;omega)
   ·have q6:=Ui hc3 (by omega)
    refine Qo (Qe (Qh [true,true,true,false,true] Z Z (Qa (Qb fl107_3 Z) Z (Qa (Qk sc104 Z (h1.one 3 Z)) Z (Qa (Qd Z) Z (Qw Tryz.call95 Z (c_szCellS o4 x.cells (Uk x.inputs.length (Uk x.staged.length (Uk x.queue.length n))) _ (hd4.rd.ext E) (by first | omega | (simp only [Qi];omega) | (rw [Qi];done) | (simp only [Qi];done))) Z (fun _ w5 e5 hv=>?_)))))))
    subst hv
    replace E:=E.trans e5;replace h1:=h1.ext e5
    have z5:=e5.size
    refine Qa (Qf Z) Z (Qc (Qe (Qe (Qh [true,true] Z Z (Qa (Qd Z) Z (Qa (Yi Z Z) Z (Qc (Qt Z (fun hc4=>?_) (fun hc4=>?_)))))))))
    ·have q7:=Uj hc4 (by omega)
     refine Qe (Qh [true] Z Z (Qa (Qf Z) Z (Qc (Qv (Qm Z Z E ?_)))))
     first | exact Kd (by unfold Q7;omega) | exact Ks (by unfold Q7;omega) (by unfold Q7;omega)
    ·have q8:=Ui hc4 (by omega)
     refine Qo (Qe (Qh [true,true,true,false,true] Z Z (Qa (Qb fl107_4 Z) Z (Qa (Qk K0 Z (h1.one 4 Z)) Z (Qa (Qd Z) Z (Qw Tryz.call96 Z (c_szIntS o5 x.sums (Uk x.cells.length (Uk x.inputs.length (Uk x.staged.length (Uk x.queue.length n)))) _ (hd5.rd.ext E) (by first | omega | (simp only [Qi];omega) | (rw [Qi];done) | (simp only [Qi];done))) Z (fun _ w6 e6 hv=>?_)))))))
     subst hv
     replace E:=E.trans e6;replace h1:=h1.ext e6
     have z6:=e6.size
     refine Qa (Qf Z) Z (Qc (Qe (Qe (Qh [true,true] Z Z (Qa (Qd Z) Z (Qa (Yi Z Z) Z (Qc (Qt Z (fun hc5=>?_) (fun hc5=>?_)))))))))
     ·have q9:=Uj hc5 (by omega)
      refine Qe (Qh [true] Z Z (Qa (Qf Z) Z (Qc (Qv (Qm Z Z E ?_)))))
      first | exact Kd (by unfold Q7;omega) | exact Ks (by unfold Q7;omega) (by unfold Q7;omega)
     ·have q10:=Ui hc5 (by omega)
      refine Qo (Qe (Qh [true,true,true,false,true] Z Z (Qa (Qb fl107_5 Z) Z (Qa (Qk Hb Z (h1.one 5 Z)) Z (Qa (Qd Z) Z (Qw Tryz.call97 Z (c_szBoolS o6 x.black (Uk x.sums.length (Uk x.cells.length (Uk x.inputs.length (Uk x.staged.length (Uk x.queue.length n))))) _ (hd6.rd.ext E) (by first | omega | (simp only [Qi];omega) | (rw [Qi];done) | (simp only [Qi];done))) Z (fun _ w7 e7 hv=>?_)))))))
      subst hv
      replace E:=E.trans e7;replace h1:=h1.ext e7
      have z7:=e7.size
      refine Qa (Qf Z) Z (Qc (Qe (Qe (Qh [true,true] Z Z (Qa (Qd Z) Z (Qa (Yi Z Z) Z (Qc (Qt Z (fun hc6=>?_) (fun hc6=>?_)))))))))
      ·have q11:=Uj hc6 (by omega)
       refine Qe (Qh [true] Z Z (Qa (Qf Z) Z (Qc (Qv (Qm Z Z E ?_)))))
       first | exact Kd (by unfold Q7;omega) | exact Ks (by unfold Q7;omega) (by unfold Q7;omega)
      ·have q12:=Ui hc6 (by omega)
       refine Qo (Qe (Qh [true,true,true,false,true] Z Z (Qa (Qb fl107_6 Z) Z (Qa (Qk Hb Z (h1.one 6 Z)) Z (Qa (Qd Z) Z (Qw Tryz.call97 Z (c_szBoolS o7 x.caps (Uk x.black.length (Uk x.sums.length (Uk x.cells.length (Uk x.inputs.length (Uk x.staged.length (Uk x.queue.length n)))))) _ (hd7.rd.ext E) (by first | omega | (simp only [Qi];omega) | (rw [Qi];done) | (simp only [Qi];done))) Z (fun _ w8 e8 hv=>?_)))))))
       subst hv
       replace E:=E.trans e8;replace h1:=h1.ext e8
       have z8:=e8.size
       refine Qa (Qf Z) Z (Qc (Qe (Qe (Qh [true,true] Z Z (Qa (Qd Z) Z (Qa (Yi Z Z) Z (Qc (Qt Z (fun hc7=>?_) (fun hc7=>?_)))))))))
       ·have q13:=Uj hc7 (by omega)
        refine Qe (Qh [true] Z Z (Qa (Qf Z) Z (Qc (Qv (Qm Z Z E ?_)))))
        first | exact Kd (by unfold Q7;omega) | exact Ks (by unfold Q7;omega) (by unfold Q7;omega)
       ·have q14:=Ui hc7 (by omega)
        refine Qo (Qe (Qh [true,true,true,false,true] Z Z (Qa (Qb fl107_7 Z) Z (Qa (Qk sc105 Z (h1.one 7 Z)) Z (Qa (Qd Z) Z (Qw Tryz.call98 Z (c_szDoneS o8 x.dones (Uk x.caps.length (Uk x.black.length (Uk x.sums.length (Uk x.cells.length (Uk x.inputs.length (Uk x.staged.length (Uk x.queue.length n))))))) _ (hd8.rd.ext E) (by first | omega | (simp only [Qi];omega) | (rw [Qi];done) | (simp only [Qi];done))) Z (fun _ w9 e9 hv=>?_)))))))
        subst hv
        replace E:=E.trans e9;replace h1:=h1.ext e9
        have z9:=e9.size
        refine Qa (Qf Z) Z (Qc (Qe (Qe (Qh [true,true] Z Z (Qa (Qd Z) Z (Qa (Yi Z Z) Z (Qc (Qt Z (fun hc8=>?_) (fun hc8=>?_)))))))))
        ·have q15:=Uj hc8 (by omega)
         refine Qe (Qh [true] Z Z (Qa (Qf Z) Z (Qc (Qv (Qm Z Z E ?_)))))
         first | exact Kd (by unfold Q7;omega) | exact Ks (by unfold Q7;omega) (by unfold Q7;omega)
        ·have q16:=Ui hc8 (by omega)
         refine Qo (Qe (Qh [true,true] Z Z (Qa (Qd Z) Z (Qa (Qf Z) Z (Qc (Qv (Qm Z Z E ?_)))))))
         first | exact Kd (by unfold Q7;omega) | exact Ks (by unfold Q7;omega) (by unfold Q7;omega)

set_option maxHeartbeats 4000000 in
set_option maxRecDepth 20000 in
theorem c_toWorker (cx : List Value) (x : Worker) (w : World) (hx : Dat.R w 0 w.heap.size cx x) (hb : Q7 x ≤ 1048576) : Ct Tryz.prog 62 [.agg cx.toArray] w (fun v w'=>∃ cs,v = .agg cs.toArray ∧ Own1.O w' w.heap.size w'.heap.size cs x):=by
 unfold Q7 at hb
 refine Ym Tryz.func62 Z Tryz.ntmps62 Z ?_
 obtain ⟨o1,o2,o3,o4,o5,o6,o7,o8,rfl,hd1,hd2,hd3,hd4,hd5,hd6,hd7,hd8⟩:=Worker.op hx
 refine Q8 [(0,.agg [o1,o2,o3,o4,o5,o6,o7,o8].toArray)] ⟨Z,trivial⟩ ?_
 have E : Ext w w:=Ext.refl w
 refine Qe (Qh [false,false] Z Z (Y1 Z Z (fun b1 w1 e1 s1 h1=>?_)))
 have g_b1 : w.heap.size ≤ b1:=by have:=E.size;omega
 have y_b1:=h1.lt
 replace E:=E.trans e1
 have z1:=e1.size
 refine Yo X8 Z (fun b2 w2 e2 s2 h2=>?_)
 have g_b2 : w.heap.size ≤ b2:=by have:=E.size;omega
 have y_b2:=h2.lt
 replace E:=E.trans e2;replace h1:=h1.ext e2
 have z2:=e2.size
 refine Qc (Qe (Qh [false] Z Z (Yo X8 Z (fun b3 w3 e3 s3 h3=>?_))))
 have g_b3 : w.heap.size ≤ b3:=by have:=E.size;omega
 have y_b3:=h3.lt
 replace E:=E.trans e3;replace h1:=h1.ext e3;replace h2:=h2.ext e3
 have z3:=e3.size
 refine Qc (Qe (Qh [true,true,false,true,false] Z Z (Qa (Qb fl107_0 Z) Z (Qa (Qk Az Z (h1.one 0 Z)) Z (Qw Tryz.call108 Z (c_toRecordS o1 x.queue _ (hd1.rd.ext E) (by first | omega | (simp only [Qi];omega) | (rw [Qi];done) | (simp only [Qi];done))) Z (fun v1 w4 e4 ho1=>?_))))))
 have g_ho1 : w.heap.size ≤ w3.heap.size:=E.size
 replace E:=E.trans e4;replace h1:=h1.ext e4;replace h2:=h2.ext e4;replace h3:=h3.ext e4
 have z4:=e4.size
 refine Qa (Qb V8 Z) Z (Yj (cs':=[v1,.slice none 0 0,.slice none 0 0,.slice none 0 0,.slice none 0 0,.slice none 0 0,.slice none 0 0,.slice none 0 0]) Xq Z Z ho1.one h3 (Nat.le_of_ble_eq_true Z) Z (fun w5 m1 h3'=>?_))
 replace h3:=h3'
 replace E:=E.step m1 (fun g hg=>by cases hg;omega);replace h1:=h1.mod m1 (fun g hg=>by cases hg;omega);replace h2:=h2.mod m1 (fun g hg=>by cases hg;omega);replace ho1:=ho1.mod m1 (fun g hg=>by cases hg;omega)
 have z5:=m1.size
 refine Qc (Qe (Qh [true,true,false,true,false] Z Z (Qa (Qb fl107_1 Z) Z (Qa (Qk Az Z (h1.one 1 Z)) Z (Qw Tryz.call108 Z (c_toRecordS o2 x.staged _ (hd2.rd.ext E) (by first | omega | (simp only [Qi];omega) | (rw [Qi];done) | (simp only [Qi];done))) Z (fun v2 w6 e5 ho2=>?_))))))
 have g_ho2 : w.heap.size ≤ w5.heap.size:=E.size
 replace E:=E.trans e5;replace h1:=h1.ext e5;replace h2:=h2.ext e5;replace h3:=h3.ext e5;replace ho1:=ho1.ext e5
 have z6:=e5.size
 refine Qa (Qb Un Z) Z (Yj (cs':=[v1,v2,.slice none 0 0,.slice none 0 0,.slice none 0 0,.slice none 0 0,.slice none 0 0,.slice none 0 0]) Xq Z Z ho2.one h3 (Nat.le_of_ble_eq_true Z) Z (fun w7 m2 h3'=>?_))
 replace h3:=h3'
 replace E:=E.step m2 (fun g hg=>by cases hg;omega);replace h1:=h1.mod m2 (fun g hg=>by cases hg;omega);replace h2:=h2.mod m2 (fun g hg=>by cases hg;omega);replace ho1:=ho1.mod m2 (fun g hg=>by cases hg;omega);replace ho2:=ho2.mod m2 (fun g hg=>by cases hg;omega)
 have z7:=m2.size
 refine Qc (Qe (Qh [true,true,false,true,false] Z Z (Qa (Qb fl107_2 Z) Z (Qa (Qk Az Z (h1.one 2 Z)) Z (Qw Tryz.call108 Z (c_toRecordS o3 x.inputs _ (hd3.rd.ext E) (by first | omega | (simp only [Qi];omega) | (rw [Qi];done) | (simp only [Qi];done))) Z (fun v3 w8 e6 ho3=>?_))))))
 have g_ho3 : w.heap.size ≤ w7.heap.size:=E.size
 replace E:=E.trans e6;replace h1:=h1.ext e6;replace h2:=h2.ext e6;replace h3:=h3.ext e6;replace ho1:=ho1.ext e6;replace ho2:=ho2.ext e6
 have z8:=e6.size
 refine Qa (Qb Vd Z) Z (Yj (cs':=[v1,v2,v3,.slice none 0 0,.slice none 0 0,.slice none 0 0,.slice none 0 0,.slice none 0 0]) Xq Z Z ho3.one h3 (Nat.le_of_ble_eq_true Z) Z (fun w9 m3 h3'=>?_))
 replace h3:=h3'
 replace E:=E.step m3 (fun g hg=>by cases hg;omega);replace h1:=h1.mod m3 (fun g hg=>by cases hg;omega);replace h2:=h2.mod m3 (fun g hg=>by cases hg;omega);replace ho1:=ho1.mod m3 (fun g hg=>by cases hg;omega);replace ho2:=ho2.mod m3 (fun g hg=>by cases hg;omega);replace ho3:=ho3.mod m3 (fun g hg=>by cases hg;omega)
 have z9:=m3.size
 refine Qc (Qe (Qh [true,true,false,true,false] Z Z (Qa (Qb fl107_3 Z) Z (Qa (Qk sc104 Z (h1.one 3 Z)) Z (Qw Tryz.call109 Z (c_toCellS o4 x.cells _ (hd4.rd.ext E) (by first | omega | (simp only [Qi];omega) | (rw [Qi];done) | (simp only [Qi];done))) Z (fun v4 w10 e7 ho4=>?_))))))
 have g_ho4 : w.heap.size ≤ w9.heap.size:=E.size
 replace E:=E.trans e7;replace h1:=h1.ext e7;replace h2:=h2.ext e7;replace h3:=h3.ext e7;replace ho1:=ho1.ext e7;replace ho2:=ho2.ext e7;replace ho3:=ho3.ext e7
 have z10:=e7.size
 refine Qa (Qb Te Z) Z (Yj (cs':=[v1,v2,v3,v4,.slice none 0 0,.slice none 0 0,.slice none 0 0,.slice none 0 0]) sc75 Z Z ho4.one h3 (Nat.le_of_ble_eq_true Z) Z (fun w11 m4 h3'=>?_))
 replace h3:=h3'
 replace E:=E.step m4 (fun g hg=>by cases hg;omega);replace h1:=h1.mod m4 (fun g hg=>by cases hg;omega);replace h2:=h2.mod m4 (fun g hg=>by cases hg;omega);replace ho1:=ho1.mod m4 (fun g hg=>by cases hg;omega);replace ho2:=ho2.mod m4 (fun g hg=>by cases hg;omega);replace ho3:=ho3.mod m4 (fun g hg=>by cases hg;omega);replace ho4:=ho4.mod m4 (fun g hg=>by cases hg;omega)
 have z11:=m4.size
 refine Qc (Qe (Qh [true,true,false,true,false] Z Z (Qa (Qb fl107_4 Z) Z (Qa (Qk K0 Z (h1.one 4 Z)) Z (Qw Tryz.call110 Z (c_toIntS o5 x.sums _ (hd5.rd.ext E) (by first | omega | (simp only [Qi];omega) | (rw [Qi];done) | (simp only [Qi];done))) Z (fun v5 w12 e8 ho5=>?_))))))
 have g_ho5 : w.heap.size ≤ w11.heap.size:=E.size
 replace E:=E.trans e8;replace h1:=h1.ext e8;replace h2:=h2.ext e8;replace h3:=h3.ext e8;replace ho1:=ho1.ext e8;replace ho2:=ho2.ext e8;replace ho3:=ho3.ext e8;replace ho4:=ho4.ext e8
 have z12:=e8.size
 refine Qa (Qb Vc Z) Z (Yj (cs':=[v1,v2,v3,v4,v5,.slice none 0 0,.slice none 0 0,.slice none 0 0]) K0 Z Z ho5.one h3 (Nat.le_of_ble_eq_true Z) Z (fun w13 m5 h3'=>?_))
 replace h3:=h3'
 replace E:=E.step m5 (fun g hg=>by cases hg;omega);replace h1:=h1.mod m5 (fun g hg=>by cases hg;omega);replace h2:=h2.mod m5 (fun g hg=>by cases hg;omega);replace ho1:=ho1.mod m5 (fun g hg=>by cases hg;omega);replace ho2:=ho2.mod m5 (fun g hg=>by cases hg;omega);replace ho3:=ho3.mod m5 (fun g hg=>by cases hg;omega);replace ho4:=ho4.mod m5 (fun g hg=>by cases hg;omega);replace ho5:=ho5.mod m5 (fun g hg=>by cases hg;omega)
 have z13:=m5.size
 refine Qc (Qe (Qh [true,true,false,true,false] Z Z (Qa (Qb fl107_5 Z) Z (Qa (Qk Hb Z (h1.one 5 Z)) Z (Qw Tryz.call111 Z (c_toBoolS o6 x.black _ (hd6.rd.ext E) (by first | omega | (simp only [Qi];omega) | (rw [Qi];done) | (simp only [Qi];done))) Z (fun v6 w14 e9 ho6=>?_))))))
 have g_ho6 : w.heap.size ≤ w13.heap.size:=E.size
 replace E:=E.trans e9;replace h1:=h1.ext e9;replace h2:=h2.ext e9;replace h3:=h3.ext e9;replace ho1:=ho1.ext e9;replace ho2:=ho2.ext e9;replace ho3:=ho3.ext e9;replace ho4:=ho4.ext e9;replace ho5:=ho5.ext e9
 have z14:=e9.size
 refine Qa (Qb Td Z) Z (Yj (cs':=[v1,v2,v3,v4,v5,v6,.slice none 0 0,.slice none 0 0]) Hb Z Z ho6.one h3 (Nat.le_of_ble_eq_true Z) Z (fun w15 m6 h3'=>?_))
 replace h3:=h3'
 replace E:=E.step m6 (fun g hg=>by cases hg;omega);replace h1:=h1.mod m6 (fun g hg=>by cases hg;omega);replace h2:=h2.mod m6 (fun g hg=>by cases hg;omega);replace ho1:=ho1.mod m6 (fun g hg=>by cases hg;omega);replace ho2:=ho2.mod m6 (fun g hg=>by cases hg;omega);replace ho3:=ho3.mod m6 (fun g hg=>by cases hg;omega);replace ho4:=ho4.mod m6 (fun g hg=>by cases hg;omega);replace ho5:=ho5.mod m6 (fun g hg=>by cases hg;omega);replace ho6:=ho6.mod m6 (fun g hg=>by cases hg;omega)
 have z15:=m6.size
 refine Qc (Qe (Qh [true,true,false,true,false] Z Z (Qa (Qb fl107_6 Z) Z (Qa (Qk Hb Z (h1.one 6 Z)) Z (Qw Tryz.call111 Z (c_toBoolS o7 x.caps _ (hd7.rd.ext E) (by first | omega | (simp only [Qi];omega) | (rw [Qi];done) | (simp only [Qi];done))) Z (fun v7 w16 e10 ho7=>?_))))))
 have g_ho7 : w.heap.size ≤ w15.heap.size:=E.size
 replace E:=E.trans e10;replace h1:=h1.ext e10;replace h2:=h2.ext e10;replace h3:=h3.ext e10;replace ho1:=ho1.ext e10;replace ho2:=ho2.ext e10;replace ho3:=ho3.ext e10;replace ho4:=ho4.ext e10;replace ho5:=ho5.ext e10;replace ho6:=ho6.ext e10
 have z16:=e10.size
 refine Qa (Qb Tc Z) Z (Yj (cs':=[v1,v2,v3,v4,v5,v6,v7,.slice none 0 0]) Hb Z Z ho7.one h3 (Nat.le_of_ble_eq_true Z) Z (fun w17 m7 h3'=>?_))
 replace h3:=h3'
 replace E:=E.step m7 (fun g hg=>by cases hg;omega);replace h1:=h1.mod m7 (fun g hg=>by cases hg;omega);replace h2:=h2.mod m7 (fun g hg=>by cases hg;omega);replace ho1:=ho1.mod m7 (fun g hg=>by cases hg;omega);replace ho2:=ho2.mod m7 (fun g hg=>by cases hg;omega);replace ho3:=ho3.mod m7 (fun g hg=>by cases hg;omega);replace ho4:=ho4.mod m7 (fun g hg=>by cases hg;omega);replace ho5:=ho5.mod m7 (fun g hg=>by cases hg;omega);replace ho6:=ho6.mod m7 (fun g hg=>by cases hg;omega);replace ho7:=ho7.mod m7 (fun g hg=>by cases hg;omega)
 have z17:=m7.size
 refine Qc (Qe (Qh [true,true,false,true,false] Z Z (Qa (Qb fl107_7 Z) Z (Qa (Qk sc105 Z (h1.one 7 Z)) Z (Qw Tryz.call112 Z (c_toDoneS o8 x.dones _ (hd8.rd.ext E) (by first | omega | (simp only [Qi];omega) | (rw [Qi];done) | (simp only [Qi];done))) Z (fun v8 w18 e11 ho8=>?_))))))
 have g_ho8 : w.heap.size ≤ w17.heap.size:=E.size
 replace E:=E.trans e11;replace h1:=h1.ext e11;replace h2:=h2.ext e11;replace h3:=h3.ext e11;replace ho1:=ho1.ext e11;replace ho2:=ho2.ext e11;replace ho3:=ho3.ext e11;replace ho4:=ho4.ext e11;replace ho5:=ho5.ext e11;replace ho6:=ho6.ext e11;replace ho7:=ho7.ext e11
 have z18:=e11.size
 refine Qa (Qb V7 Z) Z (Yj (cs':=[v1,v2,v3,v4,v5,v6,v7,v8]) Aq Z Z ho8.one h3 (Nat.le_of_ble_eq_true Z) Z (fun w19 m8 h3'=>?_))
 replace h3:=h3'
 replace E:=E.step m8 (fun g hg=>by cases hg;omega);replace h1:=h1.mod m8 (fun g hg=>by cases hg;omega);replace h2:=h2.mod m8 (fun g hg=>by cases hg;omega);replace ho1:=ho1.mod m8 (fun g hg=>by cases hg;omega);replace ho2:=ho2.mod m8 (fun g hg=>by cases hg;omega);replace ho3:=ho3.mod m8 (fun g hg=>by cases hg;omega);replace ho4:=ho4.mod m8 (fun g hg=>by cases hg;omega);replace ho5:=ho5.mod m8 (fun g hg=>by cases hg;omega);replace ho6:=ho6.mod m8 (fun g hg=>by cases hg;omega);replace ho7:=ho7.mod m8 (fun g hg=>by cases hg;omega);replace ho8:=ho8.mod m8 (fun g hg=>by cases hg;omega)
 have z19:=m8.size
 refine Qc (Qe (Qh [true,false] Z Z (Qa (Qy X8 Z h3.at Z) Z (Q4 (cs':=[v1,v2,v3,v4,v5,v6,v7,v8]) X8 Z Z Z (Qj ho1.one (Qj ho2.one (Qj ho3.one (Qj ho4.one (Qj ho5.one (Qj ho6.one (Qj ho7.one (Qj ho8.one Z)))))))) h2 (Nat.le_of_ble_eq_true Z) Z (fun w20 m9 h2'=>?_)))))
 replace h2:=h2'
 replace E:=E.step m9 (fun g hg=>by cases hg;omega);replace h1:=h1.mod m9 (fun g hg=>by cases hg;omega);replace h3:=h3.mod m9 (fun g hg=>by cases hg;omega);replace ho1:=ho1.mod m9 (fun g hg=>by cases hg;omega);replace ho2:=ho2.mod m9 (fun g hg=>by cases hg;omega);replace ho3:=ho3.mod m9 (fun g hg=>by cases hg;omega);replace ho4:=ho4.mod m9 (fun g hg=>by cases hg;omega);replace ho5:=ho5.mod m9 (fun g hg=>by cases hg;omega);replace ho6:=ho6.mod m9 (fun g hg=>by cases hg;omega);replace ho7:=ho7.mod m9 (fun g hg=>by cases hg;omega);replace ho8:=ho8.mod m9 (fun g hg=>by cases hg;omega)
 have z20:=m9.size
 refine Qc (Qv (X3 Z Z (Yd X8 h2.at Z) E ?_))
 exact ⟨_,Z,Worker.mkO x ⟨⟨(Own.sep ho1 ho2 (by omega)),⟨(Own.sep ho1 ho3 (by omega)),⟨(Own.sep ho1 ho4 (by omega)),⟨(Own.sep ho1 ho5 (by omega)),⟨(Own.sep ho1 ho6 (by omega)),⟨(Own.sep ho1 ho7 (by omega)),⟨(Own.sep ho1 ho8 (by omega)),trivial⟩⟩⟩⟩⟩⟩⟩,⟨⟨(Own.sep ho2 ho3 (by omega)),⟨(Own.sep ho2 ho4 (by omega)),⟨(Own.sep ho2 ho5 (by omega)),⟨(Own.sep ho2 ho6 (by omega)),⟨(Own.sep ho2 ho7 (by omega)),⟨(Own.sep ho2 ho8 (by omega)),trivial⟩⟩⟩⟩⟩⟩,⟨⟨(Own.sep ho3 ho4 (by omega)),⟨(Own.sep ho3 ho5 (by omega)),⟨(Own.sep ho3 ho6 (by omega)),⟨(Own.sep ho3 ho7 (by omega)),⟨(Own.sep ho3 ho8 (by omega)),trivial⟩⟩⟩⟩⟩,⟨⟨(Own.sep ho4 ho5 (by omega)),⟨(Own.sep ho4 ho6 (by omega)),⟨(Own.sep ho4 ho7 (by omega)),⟨(Own.sep ho4 ho8 (by omega)),trivial⟩⟩⟩⟩,⟨⟨(Own.sep ho5 ho6 (by omega)),⟨(Own.sep ho5 ho7 (by omega)),⟨(Own.sep ho5 ho8 (by omega)),trivial⟩⟩⟩,⟨⟨(Own.sep ho6 ho7 (by omega)),⟨(Own.sep ho6 ho8 (by omega)),trivial⟩⟩,⟨⟨(Own.sep ho7 ho8 (by omega)),trivial⟩,⟨trivial,trivial⟩⟩⟩⟩⟩⟩⟩⟩ (Own.widen ho1 (by omega) (by omega)) (Own.widen ho2 (by omega) (by omega)) (Own.widen ho3 (by omega) (by omega)) (Own.widen ho4 (by omega) (by omega)) (Own.widen ho5 (by omega) (by omega)) (Own.widen ho6 (by omega) (by omega)) (Own.widen ho7 (by omega) (by omega)) (Own.widen ho8 (by omega) (by omega))⟩

set_option maxHeartbeats 4000000 in
set_option maxRecDepth 20000 in
theorem c_eqWorker (cx : List Value) (x : Worker) (cy : List Value) (y : Worker) (w : World) (hx : Dat.R w 0 w.heap.size cx x) (hy : Dat.R w 0 w.heap.size cy y) : Ct Tryz.prog 73 [.agg cx.toArray,.agg cy.toArray] w (fun v _=>v = .bool (decide (x = y))):=by
 refine Ym Tryz.func73 Z Tryz.ntmps73 Z ?_
 obtain ⟨o1,o2,o3,o4,o5,o6,o7,o8,rfl,hd1,hd2,hd3,hd4,hd5,hd6,hd7,hd8⟩:=Worker.op hx
 obtain ⟨o9,o10,o11,o12,o13,o14,o15,o16,rfl,hd9,hd10,hd11,hd12,hd13,hd14,hd15,hd16⟩:=Worker.op hy
 refine Q8 [(0,.agg [o1,o2,o3,o4,o5,o6,o7,o8].toArray),(1,.agg [o9,o10,o11,o12,o13,o14,o15,o16].toArray)] ⟨Z,Z,trivial⟩ ?_
 have E : Ext w w:=Ext.refl w
 refine Qe (Qh [false,false,true] Z Z (Y1 Z Z (fun b1 w1 e1 s1 h1=>?_)))
 have g_b1 : w.heap.size ≤ b1:=by have:=E.size;omega
 have y_b1:=h1.lt
 replace E:=E.trans e1
 have z1:=e1.size
 refine Y1 Z Z (fun b2 w2 e2 s2 h2=>?_)
 have g_b2 : w.heap.size ≤ b2:=by have:=E.size;omega
 have y_b2:=h2.lt
 replace E:=E.trans e2;replace h1:=h1.ext e2
 have z2:=e2.size
 refine Qa (Qf Z) Z (Qc (Qe (Qe (Qh [true,true,true,true,false,true] Z Z (Qa (Qb V8 Z) Z (Qa (Qk Xq Z (h1.one 0 Z)) Z (Qa (Qb V8 Z) Z (Qa (Qk Xq Z (h2.one 0 Z)) Z (Qw Tryz.call121 Z (c_eqRecordS o1 x.queue o9 y.queue _ (hd1.rd.ext E) (hd9.rd.ext E)) Z (fun _ w3 e3 hv=>?_))))))))))
 subst hv
 replace E:=E.trans e3;replace h1:=h1.ext e3;replace h2:=h2.ext e3
 have z3:=e3.size
 refine Qa (Yy Z) Z (Qc (Qt Z (fun hc1=>?_) (fun hc1=>?_)))
 ·refine Qe (Qh [true] Z Z (Qa (Qf Z) Z (Qc (Qv (Qm Z Z E ?_)))))
  cases x;cases y;simp_all
 ·refine Qo (Qe (Qe (Qh [true,true,true,true,false,true] Z Z (Qa (Qb Un Z) Z (Qa (Qk Xq Z (h1.one 1 Z)) Z (Qa (Qb Un Z) Z (Qa (Qk Xq Z (h2.one 1 Z)) Z (Qw Tryz.call121 Z (c_eqRecordS o2 x.staged o10 y.staged _ (hd2.rd.ext E) (hd10.rd.ext E)) Z (fun _ w4 e4 hv=>?_)))))))))
  subst hv
  replace E:=E.trans e4;replace h1:=h1.ext e4;replace h2:=h2.ext e4
  have z4:=e4.size
  refine Qa (Yy Z) Z (Qc (Qt Z (fun hc2=>?_) (fun hc2=>?_)))
  ·refine Qe (Qh [true] Z Z (Qa (Qf Z) Z (Qc (Qv (Qm Z Z E ?_)))))
   cases x;cases y;simp_all
  ·refine Qo (Qe (Qe (Qh [true,true,true,true,false,true] Z Z (Qa (Qb Vd Z) Z (Qa (Qk Xq Z (h1.one 2 Z)) Z (Qa (Qb Vd Z) Z (Qa (Qk Xq Z (h2.one 2 Z)) Z (Qw Tryz.call121 Z (c_eqRecordS o3 x.inputs o11 y.inputs _ (hd3.rd.ext E) (hd11.rd.ext E)) Z (fun _ w5 e5 hv=>?_)))))))))
   subst hv
   replace E:=E.trans e5;replace h1:=h1.ext e5;replace h2:=h2.ext e5
   have z5:=e5.size
   refine Qa (Yy Z) Z (Qc (Qt Z (fun hc3=>?_) (fun hc3=>?_)))
   ·refine Qe (Qh [true] Z Z (Qa (Qf Z) Z (Qc (Qv (Qm Z Z E ?_)))))
    cases x;cases y;simp_all
   ·refine Qo (Qe (Qe (Qh [true,true,true,true,false,true] Z Z (Qa (Qb Te Z) Z (Qa (Qk sc75 Z (h1.one 3 Z)) Z (Qa (Qb Te Z) Z (Qa (Qk sc75 Z (h2.one 3 Z)) Z (Qw Tryz.call122 Z (c_eqCellS o4 x.cells o12 y.cells _ (hd4.rd.ext E) (hd12.rd.ext E)) Z (fun _ w6 e6 hv=>?_)))))))))
    subst hv
    replace E:=E.trans e6;replace h1:=h1.ext e6;replace h2:=h2.ext e6
    have z6:=e6.size
    refine Qa (Yy Z) Z (Qc (Qt Z (fun hc4=>?_) (fun hc4=>?_)))
    ·refine Qe (Qh [true] Z Z (Qa (Qf Z) Z (Qc (Qv (Qm Z Z E ?_)))))
     cases x;cases y;simp_all
    ·refine Qo (Qe (Qe (Qh [true,true,true,true,false,true] Z Z (Qa (Qb Vc Z) Z (Qa (Qk K0 Z (h1.one 4 Z)) Z (Qa (Qb Vc Z) Z (Qa (Qk K0 Z (h2.one 4 Z)) Z (Qw Tryz.call123 Z (c_eqIntS o5 x.sums o13 y.sums _ (hd5.rd.ext E) (hd13.rd.ext E)) Z (fun _ w7 e7 hv=>?_)))))))))
     subst hv
     replace E:=E.trans e7;replace h1:=h1.ext e7;replace h2:=h2.ext e7
     have z7:=e7.size
     refine Qa (Yy Z) Z (Qc (Qt Z (fun hc5=>?_) (fun hc5=>?_)))
     ·refine Qe (Qh [true] Z Z (Qa (Qf Z) Z (Qc (Qv (Qm Z Z E ?_)))))
      cases x;cases y;simp_all
     ·refine Qo (Qe (Qe (Qh [true,true,true,true,false,true] Z Z (Qa (Qb Td Z) Z (Qa (Qk Hb Z (h1.one 5 Z)) Z (Qa (Qb Td Z) Z (Qa (Qk Hb Z (h2.one 5 Z)) Z (Qw Tryz.call124 Z (c_eqBoolS o6 x.black o14 y.black _ (hd6.rd.ext E) (hd14.rd.ext E)) Z (fun _ w8 e8 hv=>?_)))))))))
      subst hv
      replace E:=E.trans e8;replace h1:=h1.ext e8;replace h2:=h2.ext e8
      have z8:=e8.size
      refine Qa (Yy Z) Z (Qc (Qt Z (fun hc6=>?_) (fun hc6=>?_)))
      ·refine Qe (Qh [true] Z Z (Qa (Qf Z) Z (Qc (Qv (Qm Z Z E ?_)))))
       cases x;cases y;simp_all
      ·refine Qo (Qe (Qe (Qh [true,true,true,true,false,true] Z Z (Qa (Qb Tc Z) Z (Qa (Qk Hb Z (h1.one 6 Z)) Z (Qa (Qb Tc Z) Z (Qa (Qk Hb Z (h2.one 6 Z)) Z (Qw Tryz.call124 Z (c_eqBoolS o7 x.caps o15 y.caps _ (hd7.rd.ext E) (hd15.rd.ext E)) Z (fun _ w9 e9 hv=>?_)))))))))
       subst hv
       replace E:=E.trans e9;replace h1:=h1.ext e9;replace h2:=h2.ext e9
       have z9:=e9.size
       refine Qa (Yy Z) Z (Qc (Qt Z (fun hc7=>?_) (fun hc7=>?_)))
       ·refine Qe (Qh [true] Z Z (Qa (Qf Z) Z (Qc (Qv (Qm Z Z E ?_)))))
        cases x;cases y;simp_all
       ·refine Qo (Qe (Qe (Qh [true,true,true,true,false,true] Z Z (Qa (Qb V7 Z) Z (Qa (Qk Aq Z (h1.one 7 Z)) Z (Qa (Qb V7 Z) Z (Qa (Qk Aq Z (h2.one 7 Z)) Z (Qw Tryz.call125 Z (c_eqDoneS o8 x.dones o16 y.dones _ (hd8.rd.ext E) (hd16.rd.ext E)) Z (fun _ w10 e10 hv=>?_)))))))))
        subst hv
        replace E:=E.trans e10;replace h1:=h1.ext e10;replace h2:=h2.ext e10
        have z10:=e10.size
        refine Qa (Yy Z) Z (Qc (Qt Z (fun hc8=>?_) (fun hc8=>?_)))
        ·refine Qe (Qh [true] Z Z (Qa (Qf Z) Z (Qc (Qv (Qm Z Z E ?_)))))
         cases x;cases y;simp_all
        ·refine Qo (Qe (Qh [true] Z Z (Qa (Qf Z) Z (Qc (Qv (Qm Z Z E ?_))))))
         cases x;cases y;simp_all

set_option maxRecDepth 20000 in
theorem c_IndexFuncDone (vxs : Value) (xs : List Done) (fp : Value) (p : Done → Bool) (w : World) (hxs : RdS w vxs xs) (hp : PredF Tryz.prog w fp p) : Ct Tryz.prog 150 [vxs,fp] w (fun v _=>v = .int .i64 (B1 xs p)):=by
 refine Ym Tryz.func150 Z Tryz.ntmps150 Z ?_
 obtain ⟨fid,fs,fc,rfl,hcf,hpf⟩:=hp
 refine Q8 [(0,vxs),(1,.func (.func fid) fs.toArray fc.toArray)] ⟨Z,Z,trivial⟩ ?_
 have E : Ext w w:=Ext.refl w
 refine Qe (Qh [true] Z Z (Qa (Qf Z) Z (Qc (Qe (Qe (Qh [true,true,true] Z Z (Qa (Qd Z) Z (Qa (Yc Tryz.underlying78 Z (hxs.ext E).len) Z (Qa (Qd Z) Z (Qc (Q0 (Yp (fun (k : Nat)=>[(0,vxs),(1,.func (.func fid) fs.toArray fc.toArray),(4,.int .i64 0),(7,.int .i64 ((xs.length : Nat) : Int)),(8,.int .i64 ((k : Nat) : Int))]) (fun (k : Nat) w'=>Ext w w' ∧ w.heap.size ≤ w'.heap.size ∧ k ≤ xs.length ∧ (xs.take k).any p = false) (fun (k : Nat)=>xs.length - k) 0 ⟨Z,Z,Z,Z,Z,trivial⟩ ⟨E,Nat.le_refl _,Nat.zero_le _,Z⟩ ?_))))))))))))
 clear E
 rintro k w1 ⟨E,z1,hk,hI⟩
 refine Qe (Qh [true] Z Z (Qa (Yi Z Z) Z (Qc (Qe (Qt Z (fun hc1=>?_) (fun hc1=>?_))))))
 ·have hc1n : k < xs.length:=by first | (have h:=of_decide_eq_true hc1;omega) | (have h:=hc1;simp at h;omega)
  refine Qo (Qe (Q0 (Qe (Qh [true,true] Z Z (Qa (Qd Z) Z (Qa (Qf Z) Z (Qc (Qe (Qh [true,true,true,true,true,false] Z Z (Qa (Qd Z) Z (Qa (Qd Z) Z (Qa (Qd Z) Z ?_))))))))))))
  have hi1 : k < xs.length:=(by first | assumption | omega | (simp only [List.length_set];first | assumption | omega) | (simp only [List.getElem_set_self,List.length_set];first | assumption | omega) | (simp only [Yn,Yh,List.length_set];first | assumption | omega))
  refine Qa (Qz (i:=k) T1 Z Z (hxs.ext E) hi1) Z (Qa (Qy Tp Z ((hxs.ext E).get hi1) Z) Z (J_callV (fs:=fs) (cs:=fc) hcf Z Z (hpf (xs[k]'hi1) _ E) Z (fun _ w2 e1 hv=>?_)))
  subst hv
  replace E:=E.trans e1
  have z2:=e1.size
  refine Qc (Qt Z (fun hc2=>?_) (fun hc2=>?_))
  ·refine Qe (Qh [true,true] Z Z (Qa (Qd Z) Z (Qa (Qf Z) Z (Qc (Qv (Q2 (Yv (Q2 (Qm Z Z E ?_)))))))))
   exact find_yes hI (by assumption) hc2
  ·refine Qo (Q6 (Y0 (Qh [true,true] Z Z (Qa (Ye Z Z (Y3 hc1n hxs.1)) Z (Qa (Qd Z) Z (Qc (Q6 (Yk (k + 1) (by omega) ⟨Z,Z,Z,Z,Z,trivial⟩ ⟨E,(by omega),(by omega),any_step hI (by assumption) hc2⟩))))))))
 ·have hc1n : ¬ k < xs.length:=by first | (have h:=of_decide_eq_false hc1;omega) | (have h:=hc1;simp at h;omega)
  refine Yq (Q5 (Q3 ?_))
  refine Qe (Qh [true] Z Z (Qa (Qf Z) Z (Qc (Qv (Qm Z Z E ?_)))))
  exact find_no hI (by omega)

set_option maxRecDepth 20000 in
theorem c_ContainsFuncDone (vxs : Value) (xs : List Done) (fp : Value) (p : Done → Bool) (w : World) (hxs : RdS w vxs xs) (hp : PredF Tryz.prog w fp p) : Ct Tryz.prog 145 [vxs,fp] w (fun v _=>v = .bool (xs.any p)):=by
 refine Ym Tryz.func145 Z Tryz.ntmps145 Z ?_
 obtain ⟨fid,fs,fc,rfl,hcf,hpf⟩:=hp
 refine Q8 [(0,vxs),(1,.func (.func fid) fs.toArray fc.toArray)] ⟨Z,Z,trivial⟩ ?_
 have E : Ext w w:=Ext.refl w
 refine Qe (Qh [true] Z Z (Qa (Qf Z) Z (Qc (Qe (Qh [true,true,false,true,true] Z Z (Qa (Qd Z) Z (Qa (Qd Z) Z (Qw Tryz.call150 (by rfl) (c_IndexFuncDone vxs xs (.func (.func fid) fs.toArray fc.toArray) (p) _ (hxs.ext E) ⟨fid,fs,fc,Z,hcf,fun y w' e=>hpf y w' (E.trans e)⟩) Z (fun _ w1 e1 hv=>?_)))))))))
 subst hv
 replace E:=E.trans e1
 have z1:=e1.size
 refine Qa (Tt Z Z) Z (Qa (Qf Z) Z (Qc (Qv (Qm Z Z E ?_))))
 exact any_find

set_option maxRecDepth 20000 in
theorem c_doneAt1 (r : Done) (be : Nat) (e : Int) (w : World) (he : At w be 0 [.int .i64 e]) : Ct Tryz.prog 146 [.agg (Enc.enc r).toArray,.pointer (some ⟨be,0,none⟩)] w (fun v _=>v = .bool (r.epoch == e)):=by
 refine Ym Tryz.func146 Z Tryz.ntmps146 Z ?_
 refine Q8 [(0,.agg (Enc.enc r).toArray),(1,.pointer (some ⟨be,0,none⟩))] ⟨Z,Z,trivial⟩ ?_
 have E : Ext w w:=Ext.refl w
 refine Qe (Qh [false,true] Z Z (Y1 Z Z (fun b1 w1 e1 s1 h1=>?_)))
 have g_b1 : w.heap.size ≤ b1:=by have:=E.size;omega
 have y_b1:=h1.lt
 replace E:=E.trans e1
 have z1:=e1.size
 refine Qa (Qf Z) Z (Qc (Qe (Qh [true,true,true,true,true] Z Z (Qa (Qb Vy Z) Z (Qa (Qk Yt Z (h1.one 0 Z)) Z (Qa (Qk Yt Z ((he.ext E).one 0 Z)) Z (Qa (Xm Z Z) Z (Qa (Qf Z) Z (Qc (Qv (Qm Z Z E ?_)))))))))))
 rfl

set_option maxRecDepth 20000 in
theorem c_doneAt (vxs : Value) (xs : List Done) (e : Int) (w : World) (hxs : RdS w vxs xs) : Ct Tryz.prog 136 [vxs,.int .i64 e] w (fun v _=>v = .bool (xs.any (fun d=>d.epoch == e))):=by
 refine Ym Tryz.func136 Z Tryz.ntmps136 Z ?_
 refine Q8 [(0,vxs),(1,.int .i64 e)] ⟨Z,Z,trivial⟩ ?_
 have E : Ext w w:=Ext.refl w
 refine Qe (Qh [false,true] Z Z (J_box1 Z Z Z (fun b1 w1 e1 s1 h1=>?_)))
 have g_b1 : w.heap.size ≤ b1:=by have:=E.size;omega
 have y_b1:=h1.lt
 replace E:=E.trans e1
 have z1:=e1.size
 refine Qa (Qf Z) Z (Qc (Qe (Qh [true,true,false,true] Z Z (Qa (Qd Z) Z (Qa (R_makeFunc Z Z) Z (Qw Tryz.call145 (by rfl) (c_ContainsFuncDone vxs xs (.func (.func 146) [].toArray [.pointer (some ⟨b1,0,none⟩)].toArray) ((fun (y : Done)=>y.epoch == e)) _ (hxs.ext E) ⟨146,[],[.pointer (some ⟨b1,0,none⟩)],Z,Tryz.call146,fun y wX eX=>c_doneAt1 y b1 e wX (At.ext (Blk.at h1) eX)⟩) Z (fun _ w2 e2 hv=>?_)))))))
 subst hv
 replace E:=E.trans e2;replace h1:=h1.ext e2
 have z2:=e2.size
 refine Qa (Qf Z) Z (Qc (Qv (Qm Z Z E ?_)))
 rfl

set_option maxRecDepth 20000 in
theorem c_StampOk (s : Stamp) (w : World)  : Ct Tryz.prog 127 [.agg (Enc.enc s).toArray] w (fun v _=>v = .bool (U3 s)):=by
 refine Ym Tryz.func127 Z Tryz.ntmps127 Z ?_
 refine Q8 [(0,.agg (Enc.enc s).toArray)] ⟨Z,trivial⟩ ?_
 have E : Ext w w:=Ext.refl w
 refine Qe (Qh [false,true] Z Z (Y1 Z Z (fun b1 w1 e1 s1 h1=>?_)))
 have g_b1 : w.heap.size ≤ b1:=by have:=E.size;omega
 have y_b1:=h1.lt
 replace E:=E.trans e1
 have z1:=e1.size
 refine Qa (Qf Z) Z (Qc (Qe (Qh [true,true,false,true,true,true,false,true,true] Z Z (Qa (Qb V9 Z) Z (Qa (Qk Yt Z (h1.one 0 Z)) Z (Qw Tryz.call71 Z (c_within s.epoch 0 3 _ ) Z (fun _ w2 e2 hv=>?_)))))))
 subst hv
 replace E:=E.trans e2;replace h1:=h1.ext e2
 have z2:=e2.size
 refine Qa (Qd Z) Z (Xf 4 [(0,.agg (Enc.enc s).toArray),(1,.pointer (some ⟨b1,0,none⟩)),(2,.bool false),(10,.bool ((Yr s.epoch 0 3) && (Yr s.turn 0 6)))] (fun w'=>Ext w w' ∧ w2.heap.size ≤ w'.heap.size ∧ Blk w' b1 (Enc.enc s)) ?_ ?_)
 ·refine Y4 (gd:=6) Z Z (fun hg1=>?_) (fun hg1=>?_)
  ·refine Qn Z Z (Qb Tg Z) Z (Qn Z Z (Qk Yt Z (h1.one 1 Z)) Z ?_)
   refine X2 Z Z ?_
   refine Qw Tryz.call71 Z (c_within s.turn 0 6 _ ) Z (fun _ w4 e3 hv=>?_)
   subst hv
   replace E:=E.trans e3;replace h1:=h1.ext e3
   have z3:=e3.size
   refine Qa (Qx Z Z) Z (Qr ⟨Z,Z,Z,congrArg (fun b=>some (Value.bool b)) (show (Yr s.turn 0 6) = ((Yr s.epoch 0 3) && (Yr s.turn 0 6)) by first | (rw [hg1] <;> rfl) | (simp [hg1];done) | (simp only [Qq] <;> simp)),trivial⟩ ⟨E,(by omega),h1⟩)
  ·refine Qg Z Z Z Z (Qg Z Z Z Z ?_)
   refine Yx Z Z Z Z ?_
   refine Qa (Q1 Z Z) Z (Qr ⟨Z,Z,Z,congrArg (fun b=>some (Value.bool b)) (show false = ((Yr s.epoch 0 3) && (Yr s.turn 0 6)) by first | (rw [hg1] <;> rfl) | (simp [hg1];done) | (simp only [Qq] <;> simp)),trivial⟩ ⟨E,(by omega),h1⟩)
 clear E h1
 rintro w3 ⟨E,z4,h1⟩
 refine Qa (Qf Z) Z (Qc (Qv (Qm Z Z E ?_)))
 rfl

set_option maxRecDepth 20000 in
theorem s_StampOk (s : Stamp) (w : World)  : Ct Tryz.prog 141 [.agg (Enc.enc s).toArray] w (fun v _=>v = .bool (U3 s)):=by
 refine Ym Tryz.func141 Z Tryz.ntmps141 Z ?_
 refine Q8 [(0,.agg (Enc.enc s).toArray)] ⟨Z,trivial⟩ ?_
 have E : Ext w w:=Ext.refl w
 refine Qe (Qh [false,true] Z Z (Y1 Z Z (fun b1 w1 e1 s1 h1=>?_)))
 have g_b1 : w.heap.size ≤ b1:=by have:=E.size;omega
 have y_b1:=h1.lt
 replace E:=E.trans e1
 have z1:=e1.size
 refine Qa (Qf Z) Z (Qc (Qe (Qh [true,true,false,true,true,true,false,true,true] Z Z (Qa (Qb V9 Z) Z (Qa (Qk Yt Z (h1.one 0 Z)) Z (Qw Tryz.call106 Z (s_l01In s.epoch 0 3 _ ) Z (fun _ w2 e2 hv=>?_)))))))
 subst hv
 replace E:=E.trans e2;replace h1:=h1.ext e2
 have z2:=e2.size
 refine Qa (Qd Z) Z (Xf 4 [(0,.agg (Enc.enc s).toArray),(1,.pointer (some ⟨b1,0,none⟩)),(2,.bool false),(10,.bool ((Yr s.epoch 0 3) && (Yr s.turn 0 6)))] (fun w'=>Ext w w' ∧ w2.heap.size ≤ w'.heap.size ∧ Blk w' b1 (Enc.enc s)) ?_ ?_)
 ·refine Y4 (gd:=6) Z Z (fun hg1=>?_) (fun hg1=>?_)
  ·refine Qn Z Z (Qb Tg Z) Z (Qn Z Z (Qk Yt Z (h1.one 1 Z)) Z ?_)
   refine X2 Z Z ?_
   refine Qw Tryz.call106 Z (s_l01In s.turn 0 6 _ ) Z (fun _ w4 e3 hv=>?_)
   subst hv
   replace E:=E.trans e3;replace h1:=h1.ext e3
   have z3:=e3.size
   refine Qa (Qx Z Z) Z (Qr ⟨Z,Z,Z,congrArg (fun b=>some (Value.bool b)) (show (Yr s.turn 0 6) = ((Yr s.epoch 0 3) && (Yr s.turn 0 6)) by first | (rw [hg1] <;> rfl) | (simp [hg1];done) | (simp only [Qq] <;> simp)),trivial⟩ ⟨E,(by omega),h1⟩)
  ·refine Qg Z Z Z Z (Qg Z Z Z Z ?_)
   refine Yx Z Z Z Z ?_
   refine Qa (Q1 Z Z) Z (Qr ⟨Z,Z,Z,congrArg (fun b=>some (Value.bool b)) (show false = ((Yr s.epoch 0 3) && (Yr s.turn 0 6)) by first | (rw [hg1] <;> rfl) | (simp [hg1];done) | (simp only [Qq] <;> simp)),trivial⟩ ⟨E,(by omega),h1⟩)
 clear E h1
 rintro w3 ⟨E,z4,h1⟩
 refine Qa (Qf Z) Z (Qc (Qv (Qm Z Z E ?_)))
 rfl

set_option maxRecDepth 20000 in
theorem c_itemOk (a : Int) (b : Int) (w : World)  : Ct Tryz.prog 128 [.int .i64 a,.int .i64 b] w (fun v _=>v = .bool (Yr a 0 99 && Yr b 0 999)):=by
 refine Ym Tryz.func128 Z Tryz.ntmps128 Z ?_
 refine Q8 [(0,.int .i64 a),(1,.int .i64 b)] ⟨Z,Z,trivial⟩ ?_
 have E : Ext w w:=Ext.refl w
 refine Qe (Qh [true] Z Z (Qa (Qf Z) Z (Qc (Qe (Qh [true,false,true,true,false,true,true] Z Z (Qa (Qd Z) Z (Qw Tryz.call71 Z (c_within a 0 99 _ ) Z (fun _ w1 e1 hv=>?_))))))))
 subst hv
 replace E:=E.trans e1
 have z1:=e1.size
 refine Qa (Qd Z) Z (Xf 3 [(0,.int .i64 a),(1,.int .i64 b),(4,.bool false),(10,.bool ((Yr a 0 99) && (Yr b 0 999)))] (fun w'=>Ext w w' ∧ w1.heap.size ≤ w'.heap.size) ?_ ?_)
 ·refine Y4 (gd:=7) Z Z (fun hg1=>?_) (fun hg1=>?_)
  ·refine Qn Z Z (Qd Z) Z ?_
   refine X2 Z Z ?_
   refine Qw Tryz.call71 Z (c_within b 0 999 _ ) Z (fun _ w3 e2 hv=>?_)
   subst hv
   replace E:=E.trans e2
   have z2:=e2.size
   refine Qa (Qx Z Z) Z (Qr ⟨Z,Z,Z,congrArg (fun b=>some (Value.bool b)) (show (Yr b 0 999) = ((Yr a 0 99) && (Yr b 0 999)) by first | (rw [hg1] <;> rfl) | (simp [hg1];done) | (simp only [Qq] <;> simp)),trivial⟩ ⟨E,(by omega)⟩)
  ·refine Qg Z Z Z Z ?_
   refine Yx Z Z Z Z ?_
   refine Qa (Q1 Z Z) Z (Qr ⟨Z,Z,Z,congrArg (fun b=>some (Value.bool b)) (show false = ((Yr a 0 99) && (Yr b 0 999)) by first | (rw [hg1] <;> rfl) | (simp [hg1];done) | (simp only [Qq] <;> simp)),trivial⟩ ⟨E,(by omega)⟩)
 clear E
 rintro w2 ⟨E,z3⟩
 refine Qa (Qf Z) Z (Qc (Qv (Qm Z Z E ?_)))
 rfl

set_option maxRecDepth 20000 in
theorem c_RecordOk (r : Record) (w : World)  : Ct Tryz.prog 92 [.agg (Enc.enc r).toArray] w (fun v _=>v = .bool (Y2 r)):=by
 refine Ym Tryz.func92 Z Tryz.ntmps92 Z ?_
 refine Q8 [(0,.agg (Enc.enc r).toArray)] ⟨Z,trivial⟩ ?_
 have E : Ext w w:=Ext.refl w
 refine Qe (Qh [false,true] Z Z (Y1 Z Z (fun b1 w1 e1 s1 h1=>?_)))
 have g_b1 : w.heap.size ≤ b1:=by have:=E.size;omega
 have y_b1:=h1.lt
 replace E:=E.trans e1
 have z1:=e1.size
 refine Qa (Qf Z) Z (Qc (Qe (Qh [true,true,false,true,true,true,false,true,true,true,true,true,true,false,true,true] Z Z (Qa (Qb G5 Z) Z (Qa (Qk Yt Z (h1.one 0 Z)) Z (Qw Tryz.call71 Z (c_within r.op 0 7 _ ) Z (fun _ w2 e2 hv=>?_)))))))
 subst hv
 replace E:=E.trans e2;replace h1:=h1.ext e2
 have z2:=e2.size
 refine Qa (Qd Z) Z (Xf 11 [(0,.agg (Enc.enc r).toArray),(1,.pointer (some ⟨b1,0,none⟩)),(2,.bool false),(17,.bool (((Yr r.op 0 7) && (U3 r.stamp)) && (Yr r.key 0 99 && Yr r.val 0 999)))] (fun w'=>Ext w w' ∧ w2.heap.size ≤ w'.heap.size ∧ Blk w' b1 (Enc.enc r)) ?_ ?_)
 ·refine Y4 (gd:=6) Z Z (fun hg1=>?_) (fun hg1=>?_)
  ·refine Qn Z Z (Qb U6 Z) Z (Qn Z Z (Qy Dd Z (h1.part 1 [.int .i64 r.stamp.epoch,.int .i64 r.stamp.turn] Z) Z) Z ?_)
   refine X2 Z Z ?_
   refine Qw Tryz.call127 Z (c_StampOk r.stamp _ ) Z (fun _ w4 e3 hv=>?_)
   subst hv
   replace E:=E.trans e3;replace h1:=h1.ext e3
   have z3:=e3.size
   refine Qa (Qx Z Z) Z (Qa (Qd Z) Z (Y4 (gd:=11) Z Z (fun hg2=>?_) (fun hg2=>?_)))
   ·refine Qn Z Z (Qb Tf Z) Z (Qn Z Z (Qk Yt Z (h1.one 3 Z)) Z (Qn Z Z (Qb C4 Z) Z (Qn Z Z (Qk Yt Z (h1.one 4 Z)) Z ?_)))
    refine X2 Z Z ?_
    refine Qw Tryz.call128 Z (c_itemOk r.key r.val _ ) Z (fun _ w5 e4 hv=>?_)
    subst hv
    replace E:=E.trans e4;replace h1:=h1.ext e4
    have z4:=e4.size
    refine Qa (Qx Z Z) Z (Qr ⟨Z,Z,Z,congrArg (fun b=>some (Value.bool b)) (show (Yr r.key 0 99 && Yr r.val 0 999) = (((Yr r.op 0 7) && (U3 r.stamp)) && (Yr r.key 0 99 && Yr r.val 0 999)) by first | (rw [hg1,hg2] <;> rfl) | (simp [hg1,hg2];done) | (simp only [Qq] <;> simp)),trivial⟩ ⟨E,(by omega),h1⟩)
   ·refine Qg Z Z Z Z (Qg Z Z Z Z (Qg Z Z Z Z (Qg Z Z Z Z ?_)))
    refine Yx Z Z Z Z ?_
    refine Qa (Q1 Z Z) Z (Qr ⟨Z,Z,Z,congrArg (fun b=>some (Value.bool b)) (show false = (((Yr r.op 0 7) && (U3 r.stamp)) && (Yr r.key 0 99 && Yr r.val 0 999)) by first | (rw [hg1,hg2] <;> rfl) | (simp [hg1,hg2];done) | (simp only [Qq] <;> simp)),trivial⟩ ⟨E,(by omega),h1⟩)
  ·refine Qg Z Z Z Z (Qg Z Z Z Z ?_)
   refine Yx Z Z Z Z ?_
   refine Qa (Q1 Z Z) Z (Qa (Qd Z) Z (Qg Z Z Z Z (Qg Z Z Z Z (Qg Z Z Z Z (Qg Z Z Z Z (Yx Z Z Z Z (Qa (Q1 Z Z) Z (Qr ⟨Z,Z,Z,congrArg (fun b=>some (Value.bool b)) (show false = (((Yr r.op 0 7) && (U3 r.stamp)) && (Yr r.key 0 99 && Yr r.val 0 999)) by first | (rw [hg1] <;> rfl) | (simp [hg1];done) | (simp only [Qq] <;> simp)),trivial⟩ ⟨E,(by omega),h1⟩))))))))
 clear E h1
 rintro w3 ⟨E,z5,h1⟩
 refine Qa (Qf Z) Z (Qc (Qv (Qm Z Z E ?_)))
 rfl

set_option maxRecDepth 20000 in
theorem s_RecordOk (r : Record) (w : World)  : Ct Tryz.prog 126 [.agg (Enc.enc r).toArray] w (fun v _=>v = .bool (Y2 r)):=by
 refine Ym Tryz.func126 Z Tryz.ntmps126 Z ?_
 refine Q8 [(0,.agg (Enc.enc r).toArray)] ⟨Z,trivial⟩ ?_
 have E : Ext w w:=Ext.refl w
 refine Qe (Qh [false,true] Z Z (Y1 Z Z (fun b1 w1 e1 s1 h1=>?_)))
 have g_b1 : w.heap.size ≤ b1:=by have:=E.size;omega
 have y_b1:=h1.lt
 replace E:=E.trans e1
 have z1:=e1.size
 refine Qa (Qf Z) Z (Qc (Qe (Qh [true,true,false,true,true,true,false,true,true,true,true,false,true,true,true,true,false,true,true] Z Z (Qa (Qb G5 Z) Z (Qa (Qk Yt Z (h1.one 0 Z)) Z (Qw Tryz.call106 Z (s_l01In r.op 0 7 _ ) Z (fun _ w2 e2 hv=>?_)))))))
 subst hv
 replace E:=E.trans e2;replace h1:=h1.ext e2
 have z2:=e2.size
 refine Qa (Qd Z) Z (Xf 14 [(0,.agg (Enc.enc r).toArray),(1,.pointer (some ⟨b1,0,none⟩)),(2,.bool false),(20,.bool ((((Yr r.op 0 7) && (U3 r.stamp)) && (Yr r.key 0 99)) && (Yr r.val 0 999)))] (fun w'=>Ext w w' ∧ w2.heap.size ≤ w'.heap.size ∧ Blk w' b1 (Enc.enc r)) ?_ ?_)
 ·refine Y4 (gd:=6) Z Z (fun hg1=>?_) (fun hg1=>?_)
  ·refine Qn Z Z (Qb U6 Z) Z (Qn Z Z (Qy Dd Z (h1.part 1 [.int .i64 r.stamp.epoch,.int .i64 r.stamp.turn] Z) Z) Z ?_)
   refine X2 Z Z ?_
   refine Qw Tryz.call141 Z (s_StampOk r.stamp _ ) Z (fun _ w4 e3 hv=>?_)
   subst hv
   replace E:=E.trans e3;replace h1:=h1.ext e3
   have z3:=e3.size
   refine Qa (Qx Z Z) Z (Qa (Qd Z) Z (Y4 (gd:=11) Z Z (fun hg2=>?_) (fun hg2=>?_)))
   ·refine Qn Z Z (Qb Tf Z) Z (Qn Z Z (Qk Yt Z (h1.one 3 Z)) Z ?_)
    refine X2 Z Z ?_
    refine Qw Tryz.call106 Z (s_l01In r.key 0 99 _ ) Z (fun _ w5 e4 hv=>?_)
    subst hv
    replace E:=E.trans e4;replace h1:=h1.ext e4
    have z4:=e4.size
    refine Qa (Qx Z Z) Z (Qa (Qd Z) Z (Y4 (gd:=16) Z Z (fun hg3=>?_) (fun hg3=>?_)))
    ·refine Qn Z Z (Qb C4 Z) Z (Qn Z Z (Qk Yt Z (h1.one 4 Z)) Z ?_)
     refine X2 Z Z ?_
     refine Qw Tryz.call106 Z (s_l01In r.val 0 999 _ ) Z (fun _ w6 e5 hv=>?_)
     subst hv
     replace E:=E.trans e5;replace h1:=h1.ext e5
     have z5:=e5.size
     refine Qa (Qx Z Z) Z (Qr ⟨Z,Z,Z,congrArg (fun b=>some (Value.bool b)) (show (Yr r.val 0 999) = ((((Yr r.op 0 7) && (U3 r.stamp)) && (Yr r.key 0 99)) && (Yr r.val 0 999)) by first | (rw [hg1,hg2,hg3] <;> rfl) | (simp [hg1,hg2,hg3];done) | (simp only [Qq] <;> simp)),trivial⟩ ⟨E,(by omega),h1⟩)
    ·refine Qg Z Z Z Z (Qg Z Z Z Z ?_)
     refine Yx Z Z Z Z ?_
     refine Qa (Q1 Z Z) Z (Qr ⟨Z,Z,Z,congrArg (fun b=>some (Value.bool b)) (show false = ((((Yr r.op 0 7) && (U3 r.stamp)) && (Yr r.key 0 99)) && (Yr r.val 0 999)) by first | (rw [hg1,hg2,hg3] <;> rfl) | (simp [hg1,hg2,hg3];done) | (simp only [Qq] <;> simp)),trivial⟩ ⟨E,(by omega),h1⟩)
   ·refine Qg Z Z Z Z (Qg Z Z Z Z ?_)
    refine Yx Z Z Z Z ?_
    refine Qa (Q1 Z Z) Z (Qa (Qd Z) Z (Qg Z Z Z Z (Qg Z Z Z Z (Yx Z Z Z Z (Qa (Q1 Z Z) Z (Qr ⟨Z,Z,Z,congrArg (fun b=>some (Value.bool b)) (show false = ((((Yr r.op 0 7) && (U3 r.stamp)) && (Yr r.key 0 99)) && (Yr r.val 0 999)) by first | (rw [hg1,hg2] <;> rfl) | (simp [hg1,hg2];done) | (simp only [Qq] <;> simp)),trivial⟩ ⟨E,(by omega),h1⟩))))))
  ·refine Qg Z Z Z Z (Qg Z Z Z Z ?_)
   refine Yx Z Z Z Z ?_
   refine Qa (Q1 Z Z) Z (Qa (Qd Z) Z (Qg Z Z Z Z (Qg Z Z Z Z (Yx Z Z Z Z (Qa (Q1 Z Z) Z (Qa (Qd Z) Z (Qg Z Z Z Z (Qg Z Z Z Z (Yx Z Z Z Z (Qa (Q1 Z Z) Z (Qr ⟨Z,Z,Z,congrArg (fun b=>some (Value.bool b)) (show false = ((((Yr r.op 0 7) && (U3 r.stamp)) && (Yr r.key 0 99)) && (Yr r.val 0 999)) by first | (rw [hg1] <;> rfl) | (simp [hg1];done) | (simp only [Qq] <;> simp)),trivial⟩ ⟨E,(by omega),h1⟩)))))))))))
 clear E h1
 rintro w3 ⟨E,z6,h1⟩
 refine Qa (Qf Z) Z (Qc (Qv (Qm Z Z E ?_)))
 simp [Y2,Bool.and_assoc]

set_option maxRecDepth 20000 in
theorem c_isNode (cg : List Value) (g : Graph) (op : Int) (w : World) (hg : Dat.R w 0 w.heap.size cg g) : Ct Tryz.prog 137 [.agg cg.toArray,.int .i64 op] w (fun v _=>v = .bool (Ug g op)):=by
 refine Ym Tryz.func137 Z Tryz.ntmps137 Z ?_
 obtain ⟨o1,rfl,hd1⟩:=Graph.op hg
 refine Q8 [(0,.agg [o1,.int .i64 g.workers,.int .i64 g.cap].toArray),(1,.int .i64 op)] ⟨Z,Z,trivial⟩ ?_
 have E : Ext w w:=Ext.refl w
 refine Qe (Qh [false,true] Z Z (Y1 Z Z (fun b1 w1 e1 s1 h1=>?_)))
 have g_b1 : w.heap.size ≤ b1:=by have:=E.size;omega
 have y_b1:=h1.lt
 replace E:=E.trans e1
 have z1:=e1.size
 refine Qa (Qf Z) Z (Qc (Qe (Qh [true,true,true,true,true,false,true] Z Z (Qa (Qd Z) Z (Qa (Qb Kw Z) Z (Qa (Qk Gn Z (h1.one 0 Z)) Z (Qa (Yc Tryz.underlying32 Z (hd1.ext E).len) Z (Qa (K6 Z Z Z) Z (Qw Tryz.call71 Z (c_within op 0 (IntKind.i64.wrap (((g.nodes.length : Nat) : Int) - 1)) _ ) Z (fun _ w2 e2 hv=>?_))))))))))
 subst hv
 replace E:=E.trans e2;replace h1:=h1.ext e2
 have z2:=e2.size
 refine Qa (Qf Z) Z (Qc (Qv (Qm Z Z E ?_)))
 have a1:=hd1.1.1
 unfold maxLen at a1
 rw [Ki (by omega) (by omega)];rfl

set_option maxRecDepth 20000 in
theorem c_opsOk (cg : List Value) (g : Graph) (vxs : Value) (xs : List Record) (w : World) (hg : Dat.R w 0 w.heap.size cg g) (hxs : RdS w vxs xs) : Ct Tryz.prog 118 [.agg cg.toArray,vxs] w (fun v _=>v = .bool (xs.all (Xo g))):=by
 refine Ym Tryz.func118 Z Tryz.ntmps118 Z ?_
 obtain ⟨o1,rfl,hd1⟩:=Graph.op hg
 refine Q8 [(0,.agg [o1,.int .i64 g.workers,.int .i64 g.cap].toArray),(1,vxs)] ⟨Z,Z,trivial⟩ ?_
 have E : Ext w w:=Ext.refl w
 refine Qe (Qh [false,true] Z Z (Y1 Z Z (fun b1 w1 e1 s1 h1=>?_)))
 have g_b1 : w.heap.size ≤ b1:=by have:=E.size;omega
 have y_b1:=h1.lt
 replace E:=E.trans e1
 have z1:=e1.size
 refine Qa (Qf Z) Z (Qc (Qe (Qe (Qh [true,true,true] Z Z (Qa (Qd Z) Z (Qa (Yc Tryz.underlying66 Z (hxs.ext E).len) Z (Qa (Qd Z) Z (Qc (Q0 (Yp (fun (k : Nat)=>[(2,.pointer (some ⟨b1,0,none⟩)),(4,.bool false),(7,vxs),(8,.int .i64 ((xs.length : Nat) : Int)),(9,.int .i64 ((k : Nat) : Int))]) (fun (k : Nat) w'=>Ext w w' ∧ w1.heap.size ≤ w'.heap.size ∧ Blk w' b1 ([o1,.int .i64 g.workers,.int .i64 g.cap]) ∧ k ≤ xs.length ∧ (xs.take k).all (Xo g) = true) (fun (k : Nat)=>xs.length - k) 0 ⟨Z,Z,Z,Z,Z,trivial⟩ ⟨E,Nat.le_refl _,h1,Nat.zero_le _,Z⟩ ?_))))))))))
 clear E h1
 rintro k w2 ⟨E,z2,h1,hk,hI⟩
 refine Qe (Qh [true] Z Z (Qa (Yi Z Z) Z (Qc (Qe (Qt Z (fun hc1=>?_) (fun hc1=>?_))))))
 ·have hc1n : k < xs.length:=by first | (have h:=of_decide_eq_true hc1;omega) | (have h:=hc1;simp at h;omega)
  refine Qo (Qe (Q0 (Qe (Qh [true,true,false,false] Z Z ?_))))
  have hi1 : k < xs.length:=(by first | assumption | omega | (simp only [List.length_set];first | assumption | omega) | (simp only [List.getElem_set_self,List.length_set];first | assumption | omega) | (simp only [Yn,Yh,List.length_set];first | assumption | omega))
  refine Qa (Qz (i:=k) Kn Z Z (hxs.ext E) hi1) Z (Qa (Qy Ul Z ((hxs.ext E).get hi1) Z) Z (Yo Ul Z (fun b2 w3 e2 s2 h2=>?_)))
  have g_b2 : w.heap.size ≤ b2:=by have:=E.size;omega
  have y_b2:=h2.lt
  replace E:=E.trans e2;replace h1:=h1.ext e2
  have z3:=e2.size
  refine Q4 (cs':=[.int .i64 ((xs[k]'hi1).op),.int .i64 (((xs[k]'hi1).stamp).epoch),.int .i64 (((xs[k]'hi1).stamp).turn),.int .i64 ((xs[k]'hi1).key),.int .i64 ((xs[k]'hi1).val)]) Ul Z Z Z Z h2 (Nat.le_of_ble_eq_true Z) Z (fun w4 m1 h2'=>?_)
  replace h2:=h2'
  replace E:=E.step m1 (fun g hg=>by cases hg;omega);replace h1:=h1.mod m1 (fun g hg=>by cases hg;omega)
  have z4:=m1.size
  refine Qc (Qe (Qh [true,false,true,true,true,true,true,false,true,true] Z Z (Qa (Qy Ul Z h2.at Z) Z (Qw Tryz.call92 Z (c_RecordOk (xs[k]'hi1) _ ) Z (fun _ w5 e3 hv=>?_)))))
  subst hv
  replace E:=E.trans e3;replace h1:=h1.ext e3;replace h2:=h2.ext e3
  have z5:=e3.size
  refine Qa (Yy Z) Z (Qa (Qd Z) Z (Xf 6 [(2,.pointer (some ⟨b1,0,none⟩)),(4,.bool false),(6,.pointer (some ⟨b2,0,none⟩)),(7,vxs),(8,.int .i64 ((xs.length : Nat) : Int)),(9,.int .i64 ((k : Nat) : Int)),(10,.bool (decide (((k : Nat) : Int) < ((xs.length : Nat) : Int)))),(11,.pointer (some ⟨Y6 vxs,Y8 vxs + k * 5,none⟩)),(12,.agg (Enc.enc (xs[k]'hi1)).toArray),(22,.bool ((!(Y2 (xs[k]'hi1))) || (!(Ug g ((xs[k]'hi1).op)))))] (fun w'=>Ext w w' ∧ w5.heap.size ≤ w'.heap.size ∧ Blk w' b1 ([o1,.int .i64 g.workers,.int .i64 g.cap]) ∧ Blk w' b2 [.int .i64 ((xs[k]'hi1).op),.int .i64 (((xs[k]'hi1).stamp).epoch),.int .i64 (((xs[k]'hi1).stamp).turn),.int .i64 ((xs[k]'hi1).key),.int .i64 ((xs[k]'hi1).val)]) ?_ ?_))
  ·refine Y4 (gd:=16) Z Z (fun hg1=>?_) (fun hg1=>?_)
   ·refine Qg Z Z Z Z (Qg Z Z Z Z (Qg Z Z Z Z ?_))
    refine Yx Z Z Z Z ?_
    refine Qg Z Z Z Z (Qa (Qx Z Z) Z (Qr ⟨Z,Z,Z,Z,Z,Z,Z,Z,Z,congrArg (fun b=>some (Value.bool b)) (show true = ((!(Y2 (xs[k]'hi1))) || (!(Ug g ((xs[k]'hi1).op)))) by first | (rw [hg1] <;> rfl) | (simp [hg1];done) | (simp only [Qq] <;> simp)),trivial⟩ ⟨E,(by omega),h1,h2⟩))
   ·refine Qn Z Z (Qy Uq Z h1.at Z) Z (Qn Z Z (Qb G5 Z) Z (Qn Z Z (Qk Yt Z (h2.one 0 Z)) Z ?_))
    refine X2 Z Z ?_
    refine Qw Tryz.call137 Z (c_isNode [o1,.int .i64 g.workers,.int .i64 g.cap] g ((xs[k]'hi1).op) _ (Graph.mkR g (RdD.any (hd1.ext E)))) Z (fun _ w7 e4 hv=>?_)
    subst hv
    replace E:=E.trans e4;replace h1:=h1.ext e4;replace h2:=h2.ext e4
    have z6:=e4.size
    refine Qn Z Z (Yy Z) Z (Qa (Q1 Z Z) Z (Qr ⟨Z,Z,Z,Z,Z,Z,Z,Z,Z,congrArg (fun b=>some (Value.bool b)) (show (!(Ug g ((xs[k]'hi1).op))) = ((!(Y2 (xs[k]'hi1))) || (!(Ug g ((xs[k]'hi1).op)))) by first | (rw [hg1] <;> rfl) | (simp [hg1];done) | (simp only [Qq] <;> simp)),trivial⟩ ⟨E,(by omega),h1,h2⟩))
  clear E h1 h2
  rintro w6 ⟨E,z7,h1,h2⟩
  refine Qc (Qt Z (fun hc2=>?_) (fun hc2=>?_))
  ·refine Qe (Qh [true] Z Z (Qa (Qf Z) Z (Qc (Qv (Q2 (Yv (Q2 (Qm Z Z E ?_))))))))
   exact all_no (by assumption) (kx hc2)
  ·refine Qo (Q6 (Y0 (Qh [true,true] Z Z (Qa (Ye Z Z (Y3 hc1n hxs.1)) Z (Qa (Qd Z) Z (Qc (Q6 (Yk (k + 1) (by omega) ⟨Z,Z,Z,Z,Z,trivial⟩ ⟨E,(by omega),h1,(by omega),Kh hI (by assumption) (ky hc2)⟩))))))))
 ·have hc1n : ¬ k < xs.length:=by first | (have h:=of_decide_eq_false hc1;omega) | (have h:=hc1;simp at h;omega)
  refine Yq (Q5 (Q3 ?_))
  refine Qe (Qh [true] Z Z (Qa (Qf Z) Z (Qc (Qv (Qm Z Z E ?_)))))
  exact Be hI (by omega)

set_option maxRecDepth 20000 in
theorem s_l12Records (cg : List Value) (g : Graph) (vxs : Value) (xs : List Record) (w : World) (hg : Dat.R w 0 w.heap.size cg g) (hxs : RdS w vxs xs) : Ct Tryz.prog 105 [.agg cg.toArray,vxs] w (fun v _=>v = .bool (xs.all (Xo g))):=by
 refine Ym Tryz.func105 Z Tryz.ntmps105 Z ?_
 obtain ⟨o1,rfl,hd1⟩:=Graph.op hg
 refine Q8 [(0,.agg [o1,.int .i64 g.workers,.int .i64 g.cap].toArray),(1,vxs)] ⟨Z,Z,trivial⟩ ?_
 have E : Ext w w:=Ext.refl w
 refine Qe (Qh [false,true] Z Z (Y1 Z Z (fun b1 w1 e1 s1 h1=>?_)))
 have g_b1 : w.heap.size ≤ b1:=by have:=E.size;omega
 have y_b1:=h1.lt
 replace E:=E.trans e1
 have z1:=e1.size
 refine Qa (Qf Z) Z (Qc (Qe (Qe (Qh [true] Z Z (Qa (Qf Z) Z (Qc (Q0 (Yp (fun (k : Nat)=>[(1,vxs),(2,.pointer (some ⟨b1,0,none⟩)),(4,.bool false),(5,.int .i64 ((k : Nat) : Int))]) (fun (k : Nat) w'=>Ext w w' ∧ w1.heap.size ≤ w'.heap.size ∧ Blk w' b1 ([o1,.int .i64 g.workers,.int .i64 g.cap]) ∧ k ≤ xs.length ∧ (xs.take k).all (Xo g) = true) (fun (k : Nat)=>xs.length - k) 0 ⟨Z,Z,Z,Z,trivial⟩ ⟨E,Nat.le_refl _,h1,Nat.zero_le _,Z⟩ ?_))))))))
 clear E h1
 rintro k w2 ⟨E,z2,h1,hk,hI⟩
 refine Qe (Qe (Qh [true,true,true,true] Z Z (Qa (Qd Z) Z (Qa (Qd Z) Z (Qa (Yc Tryz.underlying66 Z (hxs.ext E).len) Z (Qa (Yi Z Z) Z (Qc (Qt Z (fun hc1=>?_) (fun hc1=>?_)))))))))
 ·have hc1n : k < xs.length:=by first | (have h:=of_decide_eq_true hc1;omega) | (have h:=hc1;simp at h;omega)
  refine Qo (Qe (Q0 (Qe (Xx Xs [(0,true),(1,true),(2,true),(3,true),(4,false),(5,true),(6,true),(7,true),(8,true),(9,true),(10,true),(11,true),(12,true),(13,true),(14,true),(15,true),(16,true)] (by decide +kernel) Z (fun w3 e2=>?_)))))
  replace E:=E.trans e2;replace h1:=h1.ext e2
  have z3:=e2.size
  refine Qa (Qd Z) Z (Qa (Qd Z) Z ?_)
  have hi1 : k < xs.length:=(by first | assumption | omega | (simp only [List.length_set];first | assumption | omega) | (simp only [List.getElem_set_self,List.length_set];first | assumption | omega) | (simp only [Yn,Yh,List.length_set];first | assumption | omega))
  refine Qa (Qz (i:=k) Kn Z Z (hxs.ext E) hi1) Z (Qa (Qy Ul Z ((hxs.ext E).get hi1) Z) Z (Qw Tryz.call126 Z (s_RecordOk (xs[k]'hi1) _ ) Z (fun _ w4 e3 hv=>?_)))
  subst hv
  replace E:=E.trans e3;replace h1:=h1.ext e3
  have z4:=e3.size
  refine Qa (Yy Z) Z (Qa (Qd Z) Z (Xf 10 [(1,vxs),(2,.pointer (some ⟨b1,0,none⟩)),(4,.bool false),(5,.int .i64 ((k : Nat) : Int)),(6,.int .i64 ((k : Nat) : Int)),(7,vxs),(8,.int .i64 ((xs.length : Nat) : Int)),(9,.bool (decide (((k : Nat) : Int) < ((xs.length : Nat) : Int)))),(28,.bool ((!(Y2 (xs[k]'hi1))) || (decide (((g.nodes.length : Nat) : Int) ≤ ((xs[k]'hi1).op)))))] (fun w'=>w4 = w') ?_ ?_))
  ·refine Y4 (gd:=18) Z Z (fun hg1=>?_) (fun hg1=>?_)
   ·refine Qg Z Z Z Z (Qg Z Z Z Z (Qg Z Z Z Z (Qg Z Z Z Z (Qg Z Z Z Z (Qg Z Z Z Z (Qg Z Z Z Z (Qg Z Z Z Z (Qg Z Z Z Z (Qa (Qx Z Z) Z (Qr ⟨Z,Z,Z,Z,Z,Z,Z,Z,congrArg (fun b=>some (Value.bool b)) (show true = ((!(Y2 (xs[k]'hi1))) || (decide (((g.nodes.length : Nat) : Int) ≤ ((xs[k]'hi1).op)))) by first | (rw [hg1] <;> rfl) | (simp [hg1];done) | (simp only [Qq] <;> simp)),trivial⟩ Z))))))))))
   ·refine Qn Z Z (Qd Z) Z (Qn Z Z (Qd Z) Z (Qn Z Z (Qz (i:=k) Kn Z Z (hxs.ext E) hi1) Z (Qn Z Z (Qs G5 Z) Z (Qn Z Z (Qk Yt Z (((hxs.ext E).get hi1).one 0 Z)) Z (Qn Z Z (Qb Kw Z) Z (Qn Z Z (Qk Gn Z (h1.one 0 Z)) Z (Qn Z Z (Yc Tryz.underlying32 Z (hd1.ext E).len) Z (Qn Z Z (Tt Z Z) Z (Qa (Q1 Z Z) Z (Qr ⟨Z,Z,Z,Z,Z,Z,Z,Z,congrArg (fun b=>some (Value.bool b)) (show (decide (((g.nodes.length : Nat) : Int) ≤ ((xs[k]'hi1).op))) = ((!(Y2 (xs[k]'hi1))) || (decide (((g.nodes.length : Nat) : Int) ≤ ((xs[k]'hi1).op)))) by first | (rw [hg1] <;> rfl) | (simp [hg1];done) | (simp only [Qq] <;> simp)),trivial⟩ Z))))))))))
  rintro _ rfl
  refine Qc (Qt Z (fun hc2=>?_) (fun hc2=>?_))
  ·refine Qe (Qh [true] Z Z (Qa (Qf Z) Z (Qc (Qv (Q2 (Yv (Q2 (Qm Z Z E ?_))))))))
   exact all_no (by assumption) (op_no hc2)
  ·refine Qo (Q6 (Y0 (Qh [true,true,true] Z Z (Qa (Qd Z) Z (Qa (Ye Z Z (Y3 hc1n hxs.1)) Z (Qa (Qf Z) Z (Qc (Q6 (Yk (k + 1) (by omega) ⟨Z,Z,Z,Z,trivial⟩ ⟨E,(by omega),h1,(by omega),Kh hI (by assumption) (op_yes hc2)⟩)))))))))
 ·have hc1n : ¬ k < xs.length:=by first | (have h:=of_decide_eq_false hc1;omega) | (have h:=hc1;simp at h;omega)
  refine Yq (Q5 (Q3 ?_))
  refine Qe (Qh [true] Z Z (Qa (Qf Z) Z (Qc (Qv (Qm Z Z E ?_)))))
  exact Be hI (by omega)

set_option maxHeartbeats 4000000 in
set_option maxRecDepth 20000 in
theorem c_WorkerOk (cg : List Value) (g : Graph) (cx : List Value) (x : Worker) (w : World) (hg : Dat.R w 0 w.heap.size cg g) (hx : Dat.R w 0 w.heap.size cx x) : Ct Tryz.prog 117 [.agg cg.toArray,.agg cx.toArray] w (fun v _=>v = .bool (Xd g x)):=by
 refine Ym Tryz.func117 Z Tryz.ntmps117 Z ?_
 obtain ⟨o1,rfl,hd1⟩:=Graph.op hg
 obtain ⟨o2,o3,o4,o5,o6,o7,o8,o9,rfl,hd2,hd3,hd4,hd5,hd6,hd7,hd8,hd9⟩:=Worker.op hx
 refine Q8 [(0,.agg [o1,.int .i64 g.workers,.int .i64 g.cap].toArray),(1,.agg [o2,o3,o4,o5,o6,o7,o8,o9].toArray)] ⟨Z,Z,trivial⟩ ?_
 have E : Ext w w:=Ext.refl w
 refine Qe (Qh [false,false,true] Z Z (Y1 Z Z (fun b1 w1 e1 s1 h1=>?_)))
 have g_b1 : w.heap.size ≤ b1:=by have:=E.size;omega
 have y_b1:=h1.lt
 replace E:=E.trans e1
 have z1:=e1.size
 refine Y1 Z Z (fun b2 w2 e2 s2 h2=>?_)
 have g_b2 : w.heap.size ≤ b2:=by have:=E.size;omega
 have y_b2:=h2.lt
 replace E:=E.trans e2;replace h1:=h1.ext e2
 have z2:=e2.size
 refine Qa (Qf Z) Z (Qc (Qe (Qe (Qh [true,true,true,false,true,true,true,true,true,false,true,true,true,true,true,true,false,true,true,true,true,true,false,true,true] Z Z (Qa (Qy Uq Z h1.at Z) Z (Qa (Qb V8 Z) Z (Qa (Qk Xq Z (h2.one 0 Z)) Z (Qw Tryz.call118 Z (c_opsOk [o1,.int .i64 g.workers,.int .i64 g.cap] g o2 x.queue _ (Graph.mkR g (RdD.any (hd1.ext E))) (hd2.rd.ext E)) Z (fun _ w3 e3 hv=>?_)))))))))
 subst hv
 replace E:=E.trans e3;replace h1:=h1.ext e3;replace h2:=h2.ext e3
 have z3:=e3.size
 refine Qa (Yy Z) Z (Qa (Qd Z) Z (Xf 19 [(0,.agg [o1,.int .i64 g.workers,.int .i64 g.cap].toArray),(1,.agg [o2,o3,o4,o5,o6,o7,o8,o9].toArray),(2,.pointer (some ⟨b1,0,none⟩)),(3,.pointer (some ⟨b2,0,none⟩)),(4,.bool false),(35,.bool ((((!(x.queue.all (Xo g))) || (!(x.staged.all (Xo g)))) || (!(x.inputs.all (Xo g)))) || (!((Tv x.cells).all Kg))))] (fun w'=>Ext w w' ∧ w3.heap.size ≤ w'.heap.size ∧ Blk w' b1 ([o1,.int .i64 g.workers,.int .i64 g.cap]) ∧ Blk w' b2 ([o2,o3,o4,o5,o6,o7,o8,o9])) ?_ ?_))
 ·refine Y4 (gd:=16) Z Z (fun hg1=>?_) (fun hg1=>?_)
  ·refine Qg Z Z Z Z (Qg Z Z Z Z (Qg Z Z Z Z ?_))
   refine Yx Z Z Z Z ?_
   refine Qg Z Z Z Z (Qa (Qx Z Z) Z (Qa (Qd Z) Z (Qg Z Z Z Z (Qg Z Z Z Z (Qg Z Z Z Z ?_)))))
   refine Yx Z Z Z Z ?_
   refine Qg Z Z Z Z (Qa (Qx Z Z) Z (Qa (Qd Z) Z (Qg Z Z Z Z (Qg Z Z Z Z ?_))))
   refine Yx Z Z Z Z ?_
   refine Qg Z Z Z Z (Qa (Qx Z Z) Z (Qr ⟨Z,Z,Z,Z,Z,congrArg (fun b=>some (Value.bool b)) (show true = ((((!(x.queue.all (Xo g))) || (!(x.staged.all (Xo g)))) || (!(x.inputs.all (Xo g)))) || (!((Tv x.cells).all Kg))) by first | (rw [hg1] <;> rfl) | (simp [hg1];done) | (simp only [Qq] <;> simp)),trivial⟩ ⟨E,(by omega),h1,h2⟩))
  ·refine Qn Z Z (Qy Uq Z h1.at Z) Z (Qn Z Z (Qb Un Z) Z (Qn Z Z (Qk Xq Z (h2.one 1 Z)) Z ?_))
   refine X2 Z Z ?_
   refine Qw Tryz.call118 Z (c_opsOk [o1,.int .i64 g.workers,.int .i64 g.cap] g o3 x.staged _ (Graph.mkR g (RdD.any (hd1.ext E))) (hd3.rd.ext E)) Z (fun _ w5 e4 hv=>?_)
   subst hv
   replace E:=E.trans e4;replace h1:=h1.ext e4;replace h2:=h2.ext e4
   have z4:=e4.size
   refine Qn Z Z (Yy Z) Z (Qa (Q1 Z Z) Z (Qa (Qd Z) Z ?_))
   refine Y4 (gd:=23) Z Z (fun hg2=>?_) (fun hg2=>?_)
   ·refine Qg Z Z Z Z (Qg Z Z Z Z (Qg Z Z Z Z ?_))
    refine Yx Z Z Z Z ?_
    refine Qg Z Z Z Z (Qa (Qx Z Z) Z (Qa (Qd Z) Z (Qg Z Z Z Z (Qg Z Z Z Z ?_))))
    refine Yx Z Z Z Z ?_
    refine Qg Z Z Z Z (Qa (Qx Z Z) Z (Qr ⟨Z,Z,Z,Z,Z,congrArg (fun b=>some (Value.bool b)) (show true = ((((!(x.queue.all (Xo g))) || (!(x.staged.all (Xo g)))) || (!(x.inputs.all (Xo g)))) || (!((Tv x.cells).all Kg))) by first | (rw [hg1,hg2] <;> rfl) | (simp [hg1,hg2];done) | (simp only [Qq] <;> simp)),trivial⟩ ⟨E,(by omega),h1,h2⟩))
   ·refine Qn Z Z (Qy Uq Z h1.at Z) Z (Qn Z Z (Qb Vd Z) Z (Qn Z Z (Qk Xq Z (h2.one 2 Z)) Z ?_))
    refine X2 Z Z ?_
    refine Qw Tryz.call118 Z (c_opsOk [o1,.int .i64 g.workers,.int .i64 g.cap] g o4 x.inputs _ (Graph.mkR g (RdD.any (hd1.ext E))) (hd4.rd.ext E)) Z (fun _ w6 e5 hv=>?_)
    subst hv
    replace E:=E.trans e5;replace h1:=h1.ext e5;replace h2:=h2.ext e5
    have z5:=e5.size
    refine Qn Z Z (Yy Z) Z (Qa (Q1 Z Z) Z (Qa (Qd Z) Z ?_))
    refine Y4 (gd:=30) Z Z (fun hg3=>?_) (fun hg3=>?_)
    ·refine Qg Z Z Z Z (Qg Z Z Z Z ?_)
     refine Yx Z Z Z Z ?_
     refine Qg Z Z Z Z (Qa (Qx Z Z) Z (Qr ⟨Z,Z,Z,Z,Z,congrArg (fun b=>some (Value.bool b)) (show true = ((((!(x.queue.all (Xo g))) || (!(x.staged.all (Xo g)))) || (!(x.inputs.all (Xo g)))) || (!((Tv x.cells).all Kg))) by first | (rw [hg1,hg2,hg3] <;> rfl) | (simp [hg1,hg2,hg3];done) | (simp only [Qq] <;> simp)),trivial⟩ ⟨E,(by omega),h1,h2⟩))
    ·refine Qn Z Z (Qb Te Z) Z (Qn Z Z (Qk sc75 Z (h2.one 3 Z)) Z ?_)
     refine X2 Z Z ?_
     refine Qw Tryz.call135 Z (c_CellsOk o5 x.cells _ (hd5.rd.ext E)) Z (fun _ w7 e6 hv=>?_)
     subst hv
     replace E:=E.trans e6;replace h1:=h1.ext e6;replace h2:=h2.ext e6
     have z6:=e6.size
     refine Qn Z Z (Yy Z) Z (Qa (Q1 Z Z) Z (Qr ⟨Z,Z,Z,Z,Z,congrArg (fun b=>some (Value.bool b)) (show (!((Tv x.cells).all Kg)) = ((((!(x.queue.all (Xo g))) || (!(x.staged.all (Xo g)))) || (!(x.inputs.all (Xo g)))) || (!((Tv x.cells).all Kg))) by first | (rw [hg1,hg2,hg3] <;> rfl) | (simp [hg1,hg2,hg3];done) | (simp only [Qq] <;> simp)),trivial⟩ ⟨E,(by omega),h1,h2⟩))
 clear E h1 h2
 rintro w4 ⟨E,z7,h1,h2⟩
 refine Qc (Qt Z (fun hc1=>?_) (fun hc1=>?_))
 ·refine Qe (Qh [true] Z Z (Qa (Qf Z) Z (Qc (Qv (Qm Z Z E ?_)))))
  exact bf fun h=>by simp only [Xd,Bool.and_eq_true] at h;obtain ⟨⟨⟨⟨⟨⟨⟨⟨⟨q1,q2⟩,q3⟩,q4⟩,q5⟩,q6⟩,q7⟩,q8⟩,q9⟩,q10⟩:=h;simp only [q1,q2,q3,q4] at hc1;simp at hc1
 ·refine Qo (Qe (Qe (Qh [true,true,true,true] Z Z (Qa (Qb Vd Z) Z (Qa (Qk Xq Z (h2.one 2 Z)) Z (Qa (Yc Tryz.underlying66 Z (hd4.ext E).len) Z (Qa (Qd Z) Z (Qc (Q0 (Yp (fun (k : Nat)=>[(3,.pointer (some ⟨b2,0,none⟩)),(4,.bool false),(37,o4),(38,.int .i64 ((x.inputs.length : Nat) : Int)),(39,.int .i64 ((k : Nat) : Int))]) (fun (k : Nat) w'=>Ext w w' ∧ w4.heap.size ≤ w'.heap.size ∧ Blk w' b1 ([o1,.int .i64 g.workers,.int .i64 g.cap]) ∧ Blk w' b2 ([o2,o3,o4,o5,o6,o7,o8,o9]) ∧ k ≤ x.inputs.length ∧ Ho k (fun j=>inAt x.inputs j) = true) (fun (k : Nat)=>x.inputs.length - k) 0 ⟨Z,Z,Z,Z,Z,trivial⟩ ⟨E,Nat.le_refl _,h1,h2,Nat.zero_le _,Z⟩ ?_))))))))))
  clear E h1 h2
  rintro k w8 ⟨E,z8,h1,h2,hk,hI1⟩
  have hmi:=hd4.1.1
  unfold maxLen at hmi
  refine Qe (Qh [true] Z Z (Qa (Yi Z Z) Z (Qc (Qe (Qt Z (fun hc2=>?_) (fun hc2=>?_))))))
  ·have hc2n : k < x.inputs.length:=by first | (have h:=of_decide_eq_true hc2;omega) | (have h:=hc2;simp at h;omega)
   refine Qo (Qe (Q0 (Qe (Qh [true,true,true,false,true,false] Z Z (Qa (Qd Z) Z ?_)))))
   have hi1 : k < x.inputs.length:=(by first | assumption | omega | (simp only [List.length_set];first | assumption | omega) | (simp only [List.getElem_set_self,List.length_set];first | assumption | omega) | (simp only [Yn,Yh,List.length_set];first | assumption | omega))
   refine Qa (Qz (i:=k) Kn Z Z (hd4.rd.ext E) hi1) Z (Qa (Qy Ul Z ((hd4.rd.ext E).get hi1) Z) Z (Yo Ul Z (fun b3 w9 e7 s3 h3=>?_)))
   have g_b3 : w.heap.size ≤ b3:=by have:=E.size;omega
   have y_b3:=h3.lt
   replace E:=E.trans e7;replace h1:=h1.ext e7;replace h2:=h2.ext e7
   have z9:=e7.size
   refine Qa (Qf Z) Z (Q4 (cs':=[.int .i64 ((x.inputs[k]'hi1).op),.int .i64 (((x.inputs[k]'hi1).stamp).epoch),.int .i64 (((x.inputs[k]'hi1).stamp).turn),.int .i64 ((x.inputs[k]'hi1).key),.int .i64 ((x.inputs[k]'hi1).val)]) Ul Z Z Z Z h3 (Nat.le_of_ble_eq_true Z) Z (fun w10 m1 h3'=>?_))
   replace h3:=h3'
   replace E:=E.step m1 (fun g hg=>by cases hg;omega);replace h1:=h1.mod m1 (fun g hg=>by cases hg;omega);replace h2:=h2.mod m1 (fun g hg=>by cases hg;omega)
   have z10:=m1.size
   refine Qc (Qe (Xx Xs [(0,true),(1,true),(2,true),(3,true),(4,true),(5,true),(6,true),(7,true),(8,true),(9,true),(10,true),(11,true),(12,true),(13,true),(14,true),(15,true),(16,true),(17,true),(18,true),(19,true),(20,true),(21,true),(22,true),(23,true),(24,true),(25,true),(26,true)] (by decide +kernel) Z (fun w11 e8=>?_)))
   replace E:=E.trans e8;replace h1:=h1.ext e8;replace h2:=h2.ext e8;replace h3:=h3.ext e8
   have z11:=e8.size
   refine Qa (Qb G5 Z) Z (Qa (Qk Yt Z (h3.one 0 Z)) Z (Qa (Yu Z Z) Z (Qa (Qd Z) Z (Xf 23 [(3,.pointer (some ⟨b2,0,none⟩)),(4,.bool false),(5,.int .i64 ((k : Nat) : Int)),(6,.pointer (some ⟨b3,0,none⟩)),(37,o4),(38,.int .i64 ((x.inputs.length : Nat) : Int)),(39,.int .i64 ((k : Nat) : Int)),(40,.bool (decide (((k : Nat) : Int) < ((x.inputs.length : Nat) : Int)))),(41,.int .i64 ((k : Nat) : Int)),(42,.pointer (some ⟨Y6 o4,Y8 o4 + k * 5,none⟩)),(43,.agg (Enc.enc (x.inputs[k]'hi1)).toArray),(70,.bool (((((x.inputs[k]'hi1).op) != 0) || ((((x.inputs[k]'hi1).stamp).turn) != 0)) || ((decide (0 < ((k : Nat) : Int))) && (decide ((((x.inputs[k]'hi1).stamp).epoch) < (((List.getD x.inputs (k - 1) default).stamp).epoch))))))] (fun w'=>w11 = w') ?_ ?_))))
   ·refine Y4 (gd:=47) Z Z (fun hg4=>?_) (fun hg4=>?_)
    ·refine Qg Z Z Z Z (Qg Z Z Z Z (Qg Z Z Z Z (Qg Z Z Z Z (Qa (Qx Z Z) Z (Qa (Qd Z) Z (Qg Z Z Z Z (Qg Z Z Z Z (Qg Z Z Z Z (Ya Z Z Z (Ya Z Z Z (Ya Z Z Z (Ya Z Z Z (Ya Z Z Z (Ya Z Z Z (Ya Z Z Z (Ya Z Z Z (Ya Z Z Z (Ya Z Z Z (Ya Z Z Z (Ya Z Z Z (Qg Z Z Z Z (Qa (Qx Z Z) Z (Qr ⟨Z,Z,Z,Z,Z,Z,Z,Z,Z,Z,Z,congrArg (fun b=>some (Value.bool b)) (show true = (((((x.inputs[k]'hi1).op) != 0) || ((((x.inputs[k]'hi1).stamp).turn) != 0)) || ((decide (0 < ((k : Nat) : Int))) && (decide ((((x.inputs[k]'hi1).stamp).epoch) < (((List.getD x.inputs (k - 1) default).stamp).epoch))))) by first | (rw [hg4] <;> rfl) | (simp [hg4];done) | (simp only [Qq] <;> simp)),trivial⟩ Z)))))))))))))))))))))))
    ·refine Qn Z Z (Qb U6 Z) Z (Qn Z Z (Qs Tg Z) Z (Qn Z Z (Qk Yt Z (h3.one 2 Z)) Z (Qn Z Z (Yu Z Z) Z (Qa (Q1 Z Z) Z (Qa (Qd Z) Z ?_)))))
     refine Y4 (gd:=53) Z Z (fun hg5=>?_) (fun hg5=>?_)
     ·refine Qg Z Z Z Z (Qg Z Z Z Z (Qg Z Z Z Z (Ya Z Z Z (Ya Z Z Z (Ya Z Z Z (Ya Z Z Z (Ya Z Z Z (Ya Z Z Z (Ya Z Z Z (Ya Z Z Z (Ya Z Z Z (Ya Z Z Z (Ya Z Z Z (Ya Z Z Z (Qg Z Z Z Z (Qa (Qx Z Z) Z (Qr ⟨Z,Z,Z,Z,Z,Z,Z,Z,Z,Z,Z,congrArg (fun b=>some (Value.bool b)) (show true = (((((x.inputs[k]'hi1).op) != 0) || ((((x.inputs[k]'hi1).stamp).turn) != 0)) || ((decide (0 < ((k : Nat) : Int))) && (decide ((((x.inputs[k]'hi1).stamp).epoch) < (((List.getD x.inputs (k - 1) default).stamp).epoch))))) by first | (rw [hg4,hg5] <;> rfl) | (simp [hg4,hg5];done) | (simp only [Qq] <;> simp)),trivial⟩ Z)))))))))))))))))
     ·refine Qn Z Z (Qd Z) Z (Qn Z Z (G8 Z Z) Z (Qn Z Z (Qd Z) Z ?_))
      refine Y4 (gd:=56) Z Z (fun hg6=>?_) (fun hg6=>?_)
      ·have hg6n : k > 0:=by first | (have h:=of_decide_eq_true hg6;omega) | (have h:=hg6;simp at h;omega)
       refine Qn Z Z (Qb Vd Z) Z (Qn Z Z (Qk Xq Z (h2.one 2 Z)) Z (Qn Z Z (Qd Z) Z (Qn Z Z (K6 Z Z (sub_nat (by omega) (by unfold maxLen;omega))) Z (Qn Z Z (Qz (i:=(k - 1)) Kn Z Z (hd4.rd.ext E) (by first | assumption | omega | (simp only [List.length_set];first | assumption | omega) | (simp only [List.getElem_set_self,List.length_set];first | assumption | omega) | (simp only [Yn,Yh,List.length_set];first | assumption | omega))) Z (Qn Z Z (Qs U6 Z) Z (Qn Z Z (Qs V9 Z) Z (Qn Z Z (Qk Yt Z ((RdS.getD (hd4.rd.ext E) (i:=(k - 1)) (by first | assumption | omega | (simp only [List.length_set];first | assumption | omega) | (simp only [List.getElem_set_self,List.length_set];first | assumption | omega) | (simp only [Yn,Yh,List.length_set];first | assumption | omega))).one 1 Z)) Z (Qn Z Z (Qb U6 Z) Z (Qn Z Z (Qs V9 Z) Z (Qn Z Z (Qk Yt Z (h3.one 1 Z)) Z (Qn Z Z (G8 Z Z) Z (Qn Z Z (Qx Z Z) Z (Qa (Q1 Z Z) Z (Qr ⟨Z,Z,Z,Z,Z,Z,Z,Z,Z,Z,Z,congrArg (fun b=>some (Value.bool b)) (show (decide ((((x.inputs[k]'hi1).stamp).epoch) < (((List.getD x.inputs (k - 1) default).stamp).epoch))) = (((((x.inputs[k]'hi1).op) != 0) || ((((x.inputs[k]'hi1).stamp).turn) != 0)) || ((decide (0 < ((k : Nat) : Int))) && (decide ((((x.inputs[k]'hi1).stamp).epoch) < (((List.getD x.inputs (k - 1) default).stamp).epoch))))) by first | (rw [hg4,hg5,hg6] <;> rfl) | (simp [hg4,hg5,hg6];done) | (simp only [Qq] <;> simp)),trivial⟩ Z))))))))))))))
      ·have hg6n : ¬ k > 0:=by first | (have h:=of_decide_eq_false hg6;omega) | (have h:=hg6;simp at h;omega)
       refine Qg Z Z Z Z (Qg Z Z Z Z (Qg Z Z Z Z (Qg Z Z Z Z (Qg Z Z Z Z (Qg Z Z Z Z (Qg Z Z Z Z (Qg Z Z Z Z (Qg Z Z Z Z (Qg Z Z Z Z (Qg Z Z Z Z (Qg Z Z Z Z (Qn Z Z (Q1 Z Z) Z (Qa (Q1 Z Z) Z (Qr ⟨Z,Z,Z,Z,Z,Z,Z,Z,Z,Z,Z,congrArg (fun b=>some (Value.bool b)) (show false = (((((x.inputs[k]'hi1).op) != 0) || ((((x.inputs[k]'hi1).stamp).turn) != 0)) || ((decide (0 < ((k : Nat) : Int))) && (decide ((((x.inputs[k]'hi1).stamp).epoch) < (((List.getD x.inputs (k - 1) default).stamp).epoch))))) by first | (rw [hg4,hg5,hg6] <;> rfl) | (simp [hg4,hg5,hg6];done) | (simp only [Qq] <;> simp)),trivial⟩ Z))))))))))))))
   rintro _ rfl
   refine Qc (Qt Z (fun hc3=>?_) (fun hc3=>?_))
   ·refine Qe (Qh [true] Z Z (Qa (Qf Z) Z (Qc (Qv (Q2 (Yv (Q2 (Qm Z Z E ?_))))))))
    exact bf fun h=>by simp only [Xd,Bool.and_eq_true] at h;obtain ⟨⟨⟨⟨⟨⟨⟨⟨⟨q1,q2⟩,q3⟩,q4⟩,q5⟩,q6⟩,q7⟩,q8⟩,q9⟩,q10⟩:=h;have:=G7 q5 (by assumption);rw [A9 (by assumption),hc3] at this;cases this
   ·refine Qo (Q6 (Y0 (Qh [true,true] Z Z (Qa (Ye Z Z (Y3 hc2n (hd4.ext E).1.1)) Z (Qa (Qd Z) Z (Qc (Q6 (Yk (k + 1) (by omega) ⟨Z,Z,Z,Z,Z,trivial⟩ ⟨E,(by omega),h1,h2,(by omega),Ax hI1 ((A9 (by assumption)).trans (congrArg not hc3))⟩))))))))
  ·have hc2n : ¬ k < x.inputs.length:=by first | (have h:=of_decide_eq_false hc2;omega) | (have h:=hc2;simp at h;omega)
   refine Yq (Q5 (Q3 ?_))
   refine Qe (Qe (Qh [true,true,true,true,true,true,true,true,true,true,true,true,true,true,true,true] Z Z (Qa (Qb Vc Z) Z (Qa (Qk K0 Z (h2.one 4 Z)) Z (Qa (Yc Tryz.underlying76 Z (hd6.ext E).len) Z (Qa (Yu Z Z) Z (Qa (Qd Z) Z (Xf 11 [(3,.pointer (some ⟨b2,0,none⟩)),(4,.bool false),(37,o4),(38,.int .i64 ((x.inputs.length : Nat) : Int)),(39,.int .i64 ((k : Nat) : Int)),(40,.bool (decide (((k : Nat) : Int) < ((x.inputs.length : Nat) : Int)))),(87,.bool (((((x.sums.length : Nat) : Int) != 4) || (((x.black.length : Nat) : Int) != 4)) || (((x.caps.length : Nat) : Int) != 4)))] (fun w'=>w8 = w') ?_ ?_))))))))
   ·refine Y4 (gd:=76) Z Z (fun hg7=>?_) (fun hg7=>?_)
    ·have hg7n : ¬ x.sums.length = 4:=by first | (have h:=of_decide_eq_true hg7;omega) | (have h:=hg7;simp at h;omega)
     refine Qg Z Z Z Z (Qg Z Z Z Z (Qg Z Z Z Z (Qg Z Z Z Z (Qa (Qx Z Z) Z (Qa (Qd Z) Z (Qg Z Z Z Z (Qg Z Z Z Z (Qg Z Z Z Z (Qg Z Z Z Z (Qa (Qx Z Z) Z (Qr ⟨Z,Z,Z,Z,Z,Z,congrArg (fun b=>some (Value.bool b)) (show true = (((((x.sums.length : Nat) : Int) != 4) || (((x.black.length : Nat) : Int) != 4)) || (((x.caps.length : Nat) : Int) != 4)) by first | (rw [hg7] <;> rfl) | (simp [hg7];done) | (simp only [Qq] <;> simp)),trivial⟩ Z)))))))))))
    ·have hg7n : x.sums.length = 4:=by first | (have h:=of_decide_eq_false hg7;omega) | (have h:=hg7;simp at h;omega)
     refine Qn Z Z (Qb Td Z) Z (Qn Z Z (Qk Hb Z (h2.one 5 Z)) Z (Qn Z Z (Yc Tryz.underlying77 Z (hd7.ext E).len) Z (Qn Z Z (Yu Z Z) Z (Qa (Q1 Z Z) Z (Qa (Qd Z) Z ?_)))))
     refine Y4 (gd:=82) Z Z (fun hg8=>?_) (fun hg8=>?_)
     ·have hg8n : ¬ x.black.length = 4:=by first | (have h:=of_decide_eq_true hg8;omega) | (have h:=hg8;simp at h;omega)
      refine Qg Z Z Z Z (Qg Z Z Z Z (Qg Z Z Z Z (Qg Z Z Z Z (Qa (Qx Z Z) Z (Qr ⟨Z,Z,Z,Z,Z,Z,congrArg (fun b=>some (Value.bool b)) (show true = (((((x.sums.length : Nat) : Int) != 4) || (((x.black.length : Nat) : Int) != 4)) || (((x.caps.length : Nat) : Int) != 4)) by first | (rw [hg7,hg8] <;> rfl) | (simp [hg7,hg8];done) | (simp only [Qq] <;> simp)),trivial⟩ Z)))))
     ·have hg8n : x.black.length = 4:=by first | (have h:=of_decide_eq_false hg8;omega) | (have h:=hg8;simp at h;omega)
      refine Qn Z Z (Qb Tc Z) Z (Qn Z Z (Qk Hb Z (h2.one 6 Z)) Z (Qn Z Z (Yc Tryz.underlying77 Z (hd8.ext E).len) Z (Qn Z Z (Yu Z Z) Z (Qa (Q1 Z Z) Z (Qr ⟨Z,Z,Z,Z,Z,Z,congrArg (fun b=>some (Value.bool b)) (show (((x.caps.length : Nat) : Int) != 4) = (((((x.sums.length : Nat) : Int) != 4) || (((x.black.length : Nat) : Int) != 4)) || (((x.caps.length : Nat) : Int) != 4)) by first | (rw [hg7,hg8] <;> rfl) | (simp [hg7,hg8];done) | (simp only [Qq] <;> simp)),trivial⟩ Z)))))
   rintro _ rfl
   refine Qc (Qt Z (fun hc4=>?_) (fun hc4=>?_))
   ·refine Qe (Qh [true] Z Z (Qa (Qf Z) Z (Qc (Qv (Qm Z Z E ?_)))))
    exact bf fun h=>by simp only [Xd,Bool.and_eq_true] at h;obtain ⟨⟨⟨⟨⟨⟨⟨⟨⟨q1,q2⟩,q3⟩,q4⟩,q5⟩,q6⟩,q7⟩,q8⟩,q9⟩,q10⟩:=h;simp only [beq_iff_eq] at q6 q7 q8;simp [q6,q7,q8] at hc4
   ·refine Qo (Qe (Qe (Qh [true,true,true,true] Z Z (Qa (Qb Vc Z) Z (Qa (Qk K0 Z (h2.one 4 Z)) Z (Qa (Yc Tryz.underlying76 Z (hd6.ext E).len) Z (Qa (Qd Z) Z (Qc (Q0 (Yp (fun (k : Nat)=>[(3,.pointer (some ⟨b2,0,none⟩)),(4,.bool false),(89,o6),(90,.int .i64 ((x.sums.length : Nat) : Int)),(91,.int .i64 ((k : Nat) : Int))]) (fun (k : Nat) w'=>Ext w w' ∧ w8.heap.size ≤ w'.heap.size ∧ Blk w' b1 ([o1,.int .i64 g.workers,.int .i64 g.cap]) ∧ Blk w' b2 ([o2,o3,o4,o5,o6,o7,o8,o9]) ∧ k ≤ x.sums.length ∧ (x.sums.take k).all (Yr · (-1000000) 1000000) = true) (fun (k : Nat)=>x.sums.length - k) 0 ⟨Z,Z,Z,Z,Z,trivial⟩ ⟨E,Nat.le_refl _,h1,h2,Nat.zero_le _,Z⟩ ?_))))))))))
    clear E h1 h2
    rintro k w14 ⟨E,z12,h1,h2,hk,hI2⟩
    refine Qe (Qh [true] Z Z (Qa (Yi Z Z) Z (Qc (Qe (Qt Z (fun hc5=>?_) (fun hc5=>?_))))))
    ·have hc5n : k < x.sums.length:=by first | (have h:=of_decide_eq_true hc5;omega) | (have h:=hc5;simp at h;omega)
     refine Qo (Qe (Q0 (Qe (Qh [true,true,true] Z Z ?_))))
     have hi2 : k < x.sums.length:=(by first | assumption | omega | (simp only [List.length_set];first | assumption | omega) | (simp only [List.getElem_set_self,List.length_set];first | assumption | omega) | (simp only [Yn,Yh,List.length_set];first | assumption | omega))
     refine Qa (Qz (i:=k) Ux Z Z (hd6.rd.ext E) hi2) Z (Qa (Qk Yt Z (((hd6.rd.ext E).get hi2).one 0 Z)) Z (Qa (Qf Z) Z (Qc (Qe (Qh [true,false,true] Z Z (Qa (Qd Z) Z (Qw Tryz.call71 Z (c_within (x.sums[k]'hi2) (-1000000) 1000000 _ ) Z (fun _ w15 e9 hv=>?_))))))))
     subst hv
     replace E:=E.trans e9;replace h1:=h1.ext e9;replace h2:=h2.ext e9
     have z13:=e9.size
     refine Qa (Yy Z) Z (Qc (Qt Z (fun hc6=>?_) (fun hc6=>?_)))
     ·refine Qe (Qh [true] Z Z (Qa (Qf Z) Z (Qc (Qv (Q2 (Yv (Q2 (Qm Z Z E ?_))))))))
      exact bf fun h=>by simp only [Xd,Bool.and_eq_true] at h;obtain ⟨⟨⟨⟨⟨⟨⟨⟨⟨q1,q2⟩,q3⟩,q4⟩,q5⟩,q6⟩,q7⟩,q8⟩,q9⟩,q10⟩:=h;have:=List.all_eq_true.1 q9 _ (List.getElem_mem (by assumption));simp only [this] at hc6;cases hc6
     ·refine Qo (Q6 (Y0 (Qh [true,true] Z Z (Qa (Ye Z Z (Y3 hc5n (hd6.ext E).1.1)) Z (Qa (Qd Z) Z (Qc (Q6 (Yk (k + 1) (by omega) ⟨Z,Z,Z,Z,Z,trivial⟩ ⟨E,(by omega),h1,h2,(by omega),Kh hI2 (by assumption) (by simpa using hc6)⟩))))))))
    ·have hc5n : ¬ k < x.sums.length:=by first | (have h:=of_decide_eq_false hc5;omega) | (have h:=hc5;simp at h;omega)
     refine Yq (Q5 (Q3 ?_))
     refine Qe (Qe (Qh [true,true,true,true] Z Z (Qa (Qb V7 Z) Z (Qa (Qk Aq Z (h2.one 7 Z)) Z (Qa (Yc Tryz.underlying78 Z (hd9.ext E).len) Z (Qa (Qd Z) Z (Qc (Q0 (Yp (fun (k : Nat)=>[(3,.pointer (some ⟨b2,0,none⟩)),(4,.bool false),(100,o9),(101,.int .i64 ((x.dones.length : Nat) : Int)),(102,.int .i64 ((k : Nat) : Int))]) (fun (k : Nat) w'=>Ext w w' ∧ w14.heap.size ≤ w'.heap.size ∧ Blk w' b1 ([o1,.int .i64 g.workers,.int .i64 g.cap]) ∧ Blk w' b2 ([o2,o3,o4,o5,o6,o7,o8,o9]) ∧ k ≤ x.dones.length ∧ Ho k (fun j=>Vz x.dones j) = true) (fun (k : Nat)=>x.dones.length - k) 0 ⟨Z,Z,Z,Z,Z,trivial⟩ ⟨E,Nat.le_refl _,h1,h2,Nat.zero_le _,Z⟩ ?_)))))))))
     clear E h1 h2
     rintro k w16 ⟨E,z14,h1,h2,hk,hI3⟩
     refine Qe (Qh [true] Z Z (Qa (Yi Z Z) Z (Qc (Qe (Qt Z (fun hc7=>?_) (fun hc7=>?_))))))
     ·have hc7n : k < x.dones.length:=by first | (have h:=of_decide_eq_true hc7;omega) | (have h:=hc7;simp at h;omega)
      refine Qo (Qe (Q0 (Qe (Qh [true,true,true,false,true,false] Z Z (Qa (Qd Z) Z ?_)))))
      have hi3 : k < x.dones.length:=(by first | assumption | omega | (simp only [List.length_set];first | assumption | omega) | (simp only [List.getElem_set_self,List.length_set];first | assumption | omega) | (simp only [Yn,Yh,List.length_set];first | assumption | omega))
      refine Qa (Qz (i:=k) T1 Z Z (hd9.rd.ext E) hi3) Z (Qa (Qy Tp Z ((hd9.rd.ext E).get hi3) Z) Z (Yo Tp Z (fun b4 w17 e10 s4 h4=>?_)))
      have g_b4 : w.heap.size ≤ b4:=by have:=E.size;omega
      have y_b4:=h4.lt
      replace E:=E.trans e10;replace h1:=h1.ext e10;replace h2:=h2.ext e10
      have z15:=e10.size
      refine Qa (Qf Z) Z (Q4 (cs':=[.int .i64 ((x.dones[k]'hi3).epoch),.bool ((x.dones[k]'hi3).capped)]) Tp Z Z Z Z h4 (Nat.le_of_ble_eq_true Z) Z (fun w18 m2 h4'=>?_))
      replace h4:=h4'
      replace E:=E.step m2 (fun g hg=>by cases hg;omega);replace h1:=h1.mod m2 (fun g hg=>by cases hg;omega);replace h2:=h2.mod m2 (fun g hg=>by cases hg;omega)
      have z16:=m2.size
      refine Qc (Qe (Xx Xs [(0,true),(1,true),(2,false),(3,true),(4,true),(5,true),(6,true),(7,true),(8,true),(9,true),(10,true),(11,false),(12,true)] (by decide +kernel) Z (fun w19 e11=>?_)))
      replace E:=E.trans e11;replace h1:=h1.ext e11;replace h2:=h2.ext e11;replace h4:=h4.ext e11
      have z17:=e11.size
      refine Qa (Qb Vy Z) Z (Qa (Qk Yt Z (h4.one 0 Z)) Z (Qw Tryz.call71 Z (c_within ((x.dones[k]'hi3).epoch) 0 3 _ ) Z (fun _ w20 e12 hv=>?_)))
      subst hv
      replace E:=E.trans e12;replace h1:=h1.ext e12;replace h2:=h2.ext e12;replace h4:=h4.ext e12
      have z18:=e12.size
      refine Qa (Yy Z) Z (Qa (Qd Z) Z (Xf 8 [(3,.pointer (some ⟨b2,0,none⟩)),(4,.bool false),(9,.int .i64 ((k : Nat) : Int)),(10,.pointer (some ⟨b4,0,none⟩)),(100,o9),(101,.int .i64 ((x.dones.length : Nat) : Int)),(102,.int .i64 ((k : Nat) : Int)),(103,.bool (decide (((k : Nat) : Int) < ((x.dones.length : Nat) : Int)))),(104,.int .i64 ((k : Nat) : Int)),(105,.pointer (some ⟨Y6 o9,Y8 o9 + k * 2,none⟩)),(106,.agg (Enc.enc (x.dones[k]'hi3)).toArray),(119,.bool ((!(Yr ((x.dones[k]'hi3).epoch) 0 3)) || ((List.take k x.dones).any (fun d=>d.epoch == ((x.dones[k]'hi3).epoch)))))] (fun w'=>Ext w w' ∧ w20.heap.size ≤ w'.heap.size ∧ Blk w' b1 ([o1,.int .i64 g.workers,.int .i64 g.cap]) ∧ Blk w' b2 ([o2,o3,o4,o5,o6,o7,o8,o9]) ∧ Blk w' b4 [.int .i64 ((x.dones[k]'hi3).epoch),.bool ((x.dones[k]'hi3).capped)]) ?_ ?_))
      ·refine Y4 (gd:=111) Z Z (fun hg9=>?_) (fun hg9=>?_)
       ·refine Qg Z Z Z Z (Qg Z Z Z Z (Qg Z Z Z Z (Qg Z Z Z Z (Qg Z Z Z Z (Qg Z Z Z Z ?_)))))
        refine Yx Z Z Z Z ?_
        refine Qa (Qx Z Z) Z (Qr ⟨Z,Z,Z,Z,Z,Z,Z,Z,Z,Z,Z,congrArg (fun b=>some (Value.bool b)) (show true = ((!(Yr ((x.dones[k]'hi3).epoch) 0 3)) || ((List.take k x.dones).any (fun d=>d.epoch == ((x.dones[k]'hi3).epoch)))) by first | (rw [hg9] <;> rfl) | (simp [hg9];done) | (simp only [Qq] <;> simp)),trivial⟩ ⟨E,(by omega),h1,h2,h4⟩)
       ·refine Qn Z Z (Qb V7 Z) Z (Qn Z Z (Qk Aq Z (h2.one 7 Z)) Z (Qn Z Z (Qd Z) Z ?_))
        have hk1 : k ≤ x.dones.length:=by first | assumption | omega
        have hs1 : RdD (α:=Done) w 0 w.heap.size (slTo o9 k) (List.take k x.dones):=RdB.slTo hd9 hk1
        refine Qn Z Z (R_sliceTo T1 Z Z (RdL.room (hd9.ext E).1) hk1) Z (Qn Z Z (Qb Vy Z) Z (Qn Z Z (Qk Yt Z (h4.one 0 Z)) Z ?_))
        refine X2 Z Z ?_
        refine Qw Tryz.call136 Z (c_doneAt (slTo o9 k) (List.take k x.dones) ((x.dones[k]'hi3).epoch) _ (hs1.rd.ext E)) Z (fun _ w22 e13 hv=>?_)
        subst hv
        replace E:=E.trans e13;replace h1:=h1.ext e13;replace h2:=h2.ext e13;replace h4:=h4.ext e13
        have z19:=e13.size
        refine Qa (Q1 Z Z) Z (Qr ⟨Z,Z,Z,Z,Z,Z,Z,Z,Z,Z,Z,congrArg (fun b=>some (Value.bool b)) (show ((List.take k x.dones).any (fun d=>d.epoch == ((x.dones[k]'hi3).epoch))) = ((!(Yr ((x.dones[k]'hi3).epoch) 0 3)) || ((List.take k x.dones).any (fun d=>d.epoch == ((x.dones[k]'hi3).epoch)))) by first | (rw [hg9] <;> rfl) | (simp [hg9];done) | (simp only [Qq] <;> simp)),trivial⟩ ⟨E,(by omega),h1,h2,h4⟩)
      clear E h1 h2 h4
      rintro w21 ⟨E,z20,h1,h2,h4⟩
      refine Qc (Qt Z (fun hc8=>?_) (fun hc8=>?_))
      ·refine Qe (Qh [true] Z Z (Qa (Qf Z) Z (Qc (Qv (Q2 (Yv (Q2 (Qm Z Z E ?_))))))))
       exact bf fun h=>by simp only [Xd,Bool.and_eq_true] at h;obtain ⟨⟨⟨⟨⟨⟨⟨⟨⟨q1,q2⟩,q3⟩,q4⟩,q5⟩,q6⟩,q7⟩,q8⟩,q9⟩,q10⟩:=h;have:=G7 q10 (by assumption);rw [Gf (by assumption),hc8] at this;cases this
      ·refine Qo (Q6 (Y0 (Qh [true,true] Z Z (Qa (Ye Z Z (Y3 hc7n (hd9.ext E).1.1)) Z (Qa (Qd Z) Z (Qc (Q6 (Yk (k + 1) (by omega) ⟨Z,Z,Z,Z,Z,trivial⟩ ⟨E,(by omega),h1,h2,(by omega),Ax hI3 ((Gf (by assumption)).trans (congrArg not hc8))⟩))))))))
     ·have hc7n : ¬ k < x.dones.length:=by first | (have h:=of_decide_eq_false hc7;omega) | (have h:=hc7;simp at h;omega)
      refine Yq (Q5 (Q3 ?_))
      refine Qe (Qh [true] Z Z (Qa (Qf Z) Z (Qc (Qv (Qm Z Z E ?_)))))
      exact wk_yes1 hc1 (Cl hI1 (by omega)) hc4 (Gy hI2 (by omega)) (Cl hI3 (by omega))

set_option maxHeartbeats 4000000 in
set_option maxRecDepth 20000 in
theorem s_WorkerOk (cg : List Value) (g : Graph) (cx : List Value) (x : Worker) (w : World) (hg : Dat.R w 0 w.heap.size cg g) (hx : Dat.R w 0 w.heap.size cx x) : Ct Tryz.prog 103 [.agg cg.toArray,.agg cx.toArray] w (fun v _=>v = .bool (Xd g x)):=by
 refine Ym Tryz.func103 Z Tryz.ntmps103 Z ?_
 obtain ⟨o1,rfl,hd1⟩:=Graph.op hg
 obtain ⟨o2,o3,o4,o5,o6,o7,o8,o9,rfl,hd2,hd3,hd4,hd5,hd6,hd7,hd8,hd9⟩:=Worker.op hx
 refine Q8 [(0,.agg [o1,.int .i64 g.workers,.int .i64 g.cap].toArray),(1,.agg [o2,o3,o4,o5,o6,o7,o8,o9].toArray)] ⟨Z,Z,trivial⟩ ?_
 have E : Ext w w:=Ext.refl w
 refine Qe (Qh [false,false,true] Z Z (Y1 Z Z (fun b1 w1 e1 s1 h1=>?_)))
 have g_b1 : w.heap.size ≤ b1:=by have:=E.size;omega
 have y_b1:=h1.lt
 replace E:=E.trans e1
 have z1:=e1.size
 refine Y1 Z Z (fun b2 w2 e2 s2 h2=>?_)
 have g_b2 : w.heap.size ≤ b2:=by have:=E.size;omega
 have y_b2:=h2.lt
 replace E:=E.trans e2;replace h1:=h1.ext e2
 have z2:=e2.size
 refine Qa (Qf Z) Z (Qc (Qe (Qh [true] Z Z (Qa (Qf Z) Z (Qc (Qe (Qe (Qh [true,true,true,false,true,true,true,true,true,false,true,true,true,true,true,true,false,true,true,true,true,true,false,true,true,true,true,true,true,true,true,true,true,true,true,true,true,true,true,true,true,true,true,true,true,true] Z Z (Qa (Qy Uq Z h1.at Z) Z (Qa (Qb V8 Z) Z (Qa (Qk Xq Z (h2.one 0 Z)) Z (Qw Tryz.call105 Z (s_l12Records [o1,.int .i64 g.workers,.int .i64 g.cap] g o2 x.queue _ (Graph.mkR g (RdD.any (hd1.ext E))) (hd2.rd.ext E)) Z (fun _ w3 e3 hv=>?_)))))))))))))
 subst hv
 replace E:=E.trans e3;replace h1:=h1.ext e3;replace h2:=h2.ext e3
 have z3:=e3.size
 refine Qa (Yy Z) Z (Qa (Qd Z) Z (Xf 40 [(0,.agg [o1,.int .i64 g.workers,.int .i64 g.cap].toArray),(1,.agg [o2,o3,o4,o5,o6,o7,o8,o9].toArray),(2,.pointer (some ⟨b1,0,none⟩)),(3,.pointer (some ⟨b2,0,none⟩)),(4,.bool false),(5,.int .i64 4),(55,.bool (((((((!(x.queue.all (Xo g))) || (!(x.staged.all (Xo g)))) || (!(x.inputs.all (Xo g)))) || (!((Tv x.cells).all Kg))) || (((x.sums.length : Nat) : Int) != 4)) || (((x.black.length : Nat) : Int) != 4)) || (((x.caps.length : Nat) : Int) != 4)))] (fun w'=>Ext w w' ∧ w3.heap.size ≤ w'.heap.size ∧ Blk w' b1 ([o1,.int .i64 g.workers,.int .i64 g.cap]) ∧ Blk w' b2 ([o2,o3,o4,o5,o6,o7,o8,o9])) ?_ ?_))
 ·refine Y4 (gd:=15) Z Z (fun hg1=>?_) (fun hg1=>?_)
  ·refine Qg Z Z Z Z (Qg Z Z Z Z (Qg Z Z Z Z ?_))
   refine Yx Z Z Z Z ?_
   refine Qg Z Z Z Z (Qa (Qx Z Z) Z (Qa (Qd Z) Z (Qg Z Z Z Z (Qg Z Z Z Z (Qg Z Z Z Z ?_)))))
   refine Yx Z Z Z Z ?_
   refine Qg Z Z Z Z (Qa (Qx Z Z) Z (Qa (Qd Z) Z (Qg Z Z Z Z (Qg Z Z Z Z ?_))))
   refine Yx Z Z Z Z ?_
   refine Qg Z Z Z Z (Qa (Qx Z Z) Z (Qa (Qd Z) Z (Qg Z Z Z Z (Qg Z Z Z Z (Qg Z Z Z Z (Qg Z Z Z Z (Qg Z Z Z Z (Qa (Qx Z Z) Z (Qa (Qd Z) Z (Qg Z Z Z Z (Qg Z Z Z Z (Qg Z Z Z Z (Qg Z Z Z Z (Qg Z Z Z Z (Qa (Qx Z Z) Z (Qa (Qd Z) Z (Qg Z Z Z Z (Qg Z Z Z Z (Qg Z Z Z Z (Qg Z Z Z Z (Qg Z Z Z Z (Qa (Qx Z Z) Z (Qr ⟨Z,Z,Z,Z,Z,Z,congrArg (fun b=>some (Value.bool b)) (show true = (((((((!(x.queue.all (Xo g))) || (!(x.staged.all (Xo g)))) || (!(x.inputs.all (Xo g)))) || (!((Tv x.cells).all Kg))) || (((x.sums.length : Nat) : Int) != 4)) || (((x.black.length : Nat) : Int) != 4)) || (((x.caps.length : Nat) : Int) != 4)) by first | (rw [hg1] <;> rfl) | (simp [hg1];done) | (simp only [Qq] <;> simp)),trivial⟩ ⟨E,(by omega),h1,h2⟩)))))))))))))))))))))))
  ·refine Qn Z Z (Qy Uq Z h1.at Z) Z (Qn Z Z (Qb Un Z) Z (Qn Z Z (Qk Xq Z (h2.one 1 Z)) Z ?_))
   refine X2 Z Z ?_
   refine Qw Tryz.call105 Z (s_l12Records [o1,.int .i64 g.workers,.int .i64 g.cap] g o3 x.staged _ (Graph.mkR g (RdD.any (hd1.ext E))) (hd3.rd.ext E)) Z (fun _ w5 e4 hv=>?_)
   subst hv
   replace E:=E.trans e4;replace h1:=h1.ext e4;replace h2:=h2.ext e4
   have z4:=e4.size
   refine Qn Z Z (Yy Z) Z (Qa (Q1 Z Z) Z (Qa (Qd Z) Z ?_))
   refine Y4 (gd:=22) Z Z (fun hg2=>?_) (fun hg2=>?_)
   ·refine Qg Z Z Z Z (Qg Z Z Z Z (Qg Z Z Z Z ?_))
    refine Yx Z Z Z Z ?_
    refine Qg Z Z Z Z (Qa (Qx Z Z) Z (Qa (Qd Z) Z (Qg Z Z Z Z (Qg Z Z Z Z ?_))))
    refine Yx Z Z Z Z ?_
    refine Qg Z Z Z Z (Qa (Qx Z Z) Z (Qa (Qd Z) Z (Qg Z Z Z Z (Qg Z Z Z Z (Qg Z Z Z Z (Qg Z Z Z Z (Qg Z Z Z Z (Qa (Qx Z Z) Z (Qa (Qd Z) Z (Qg Z Z Z Z (Qg Z Z Z Z (Qg Z Z Z Z (Qg Z Z Z Z (Qg Z Z Z Z (Qa (Qx Z Z) Z (Qa (Qd Z) Z (Qg Z Z Z Z (Qg Z Z Z Z (Qg Z Z Z Z (Qg Z Z Z Z (Qg Z Z Z Z (Qa (Qx Z Z) Z (Qr ⟨Z,Z,Z,Z,Z,Z,congrArg (fun b=>some (Value.bool b)) (show true = (((((((!(x.queue.all (Xo g))) || (!(x.staged.all (Xo g)))) || (!(x.inputs.all (Xo g)))) || (!((Tv x.cells).all Kg))) || (((x.sums.length : Nat) : Int) != 4)) || (((x.black.length : Nat) : Int) != 4)) || (((x.caps.length : Nat) : Int) != 4)) by first | (rw [hg1,hg2] <;> rfl) | (simp [hg1,hg2];done) | (simp only [Qq] <;> simp)),trivial⟩ ⟨E,(by omega),h1,h2⟩)))))))))))))))))))))))
   ·refine Qn Z Z (Qy Uq Z h1.at Z) Z (Qn Z Z (Qb Vd Z) Z (Qn Z Z (Qk Xq Z (h2.one 2 Z)) Z ?_))
    refine X2 Z Z ?_
    refine Qw Tryz.call105 Z (s_l12Records [o1,.int .i64 g.workers,.int .i64 g.cap] g o4 x.inputs _ (Graph.mkR g (RdD.any (hd1.ext E))) (hd4.rd.ext E)) Z (fun _ w6 e5 hv=>?_)
    subst hv
    replace E:=E.trans e5;replace h1:=h1.ext e5;replace h2:=h2.ext e5
    have z5:=e5.size
    refine Qn Z Z (Yy Z) Z (Qa (Q1 Z Z) Z (Qa (Qd Z) Z ?_))
    refine Y4 (gd:=29) Z Z (fun hg3=>?_) (fun hg3=>?_)
    ·refine Qg Z Z Z Z (Qg Z Z Z Z ?_)
     refine Yx Z Z Z Z ?_
     refine Qg Z Z Z Z (Qa (Qx Z Z) Z (Qa (Qd Z) Z (Qg Z Z Z Z (Qg Z Z Z Z (Qg Z Z Z Z (Qg Z Z Z Z (Qg Z Z Z Z (Qa (Qx Z Z) Z (Qa (Qd Z) Z (Qg Z Z Z Z (Qg Z Z Z Z (Qg Z Z Z Z (Qg Z Z Z Z (Qg Z Z Z Z (Qa (Qx Z Z) Z (Qa (Qd Z) Z (Qg Z Z Z Z (Qg Z Z Z Z (Qg Z Z Z Z (Qg Z Z Z Z (Qg Z Z Z Z (Qa (Qx Z Z) Z (Qr ⟨Z,Z,Z,Z,Z,Z,congrArg (fun b=>some (Value.bool b)) (show true = (((((((!(x.queue.all (Xo g))) || (!(x.staged.all (Xo g)))) || (!(x.inputs.all (Xo g)))) || (!((Tv x.cells).all Kg))) || (((x.sums.length : Nat) : Int) != 4)) || (((x.black.length : Nat) : Int) != 4)) || (((x.caps.length : Nat) : Int) != 4)) by first | (rw [hg1,hg2,hg3] <;> rfl) | (simp [hg1,hg2,hg3];done) | (simp only [Qq] <;> simp)),trivial⟩ ⟨E,(by omega),h1,h2⟩)))))))))))))))))))))))
    ·refine Qn Z Z (Qb Te Z) Z (Qn Z Z (Qk sc75 Z (h2.one 3 Z)) Z ?_)
     refine X2 Z Z ?_
     refine Qw Tryz.call130 Z (s_CellsOk o5 x.cells _ (hd5.rd.ext E)) Z (fun _ w7 e6 hv=>?_)
     subst hv
     replace E:=E.trans e6;replace h1:=h1.ext e6;replace h2:=h2.ext e6
     have z6:=e6.size
     refine Qn Z Z (Yy Z) Z (Qa (Q1 Z Z) Z (Qa (Qd Z) Z ?_))
     refine Y4 (gd:=35) Z Z (fun hg4=>?_) (fun hg4=>?_)
     ·refine Qg Z Z Z Z (Qg Z Z Z Z (Qg Z Z Z Z (Qg Z Z Z Z (Qg Z Z Z Z (Qa (Qx Z Z) Z (Qa (Qd Z) Z (Qg Z Z Z Z (Qg Z Z Z Z (Qg Z Z Z Z (Qg Z Z Z Z (Qg Z Z Z Z (Qa (Qx Z Z) Z (Qa (Qd Z) Z (Qg Z Z Z Z (Qg Z Z Z Z (Qg Z Z Z Z (Qg Z Z Z Z (Qg Z Z Z Z (Qa (Qx Z Z) Z (Qr ⟨Z,Z,Z,Z,Z,Z,congrArg (fun b=>some (Value.bool b)) (show true = (((((((!(x.queue.all (Xo g))) || (!(x.staged.all (Xo g)))) || (!(x.inputs.all (Xo g)))) || (!((Tv x.cells).all Kg))) || (((x.sums.length : Nat) : Int) != 4)) || (((x.black.length : Nat) : Int) != 4)) || (((x.caps.length : Nat) : Int) != 4)) by first | (rw [hg1,hg2,hg3,hg4] <;> rfl) | (simp [hg1,hg2,hg3,hg4];done) | (simp only [Qq] <;> simp)),trivial⟩ ⟨E,(by omega),h1,h2⟩))))))))))))))))))))
     ·refine Qn Z Z (Qb Vc Z) Z (Qn Z Z (Qk K0 Z (h2.one 4 Z)) Z (Qn Z Z (Yc Tryz.underlying76 Z (hd6.ext E).len) Z (Qn Z Z (Qd Z) Z (Qn Z Z (Yu Z Z) Z (Qa (Q1 Z Z) Z (Qa (Qd Z) Z ?_))))))
      refine Y4 (gd:=42) Z Z (fun hg5=>?_) (fun hg5=>?_)
      ·have hg5n : ¬ x.sums.length = 4:=by first | (have h:=of_decide_eq_true hg5;omega) | (have h:=hg5;simp at h;omega)
       refine Qg Z Z Z Z (Qg Z Z Z Z (Qg Z Z Z Z (Qg Z Z Z Z (Qg Z Z Z Z (Qa (Qx Z Z) Z (Qa (Qd Z) Z (Qg Z Z Z Z (Qg Z Z Z Z (Qg Z Z Z Z (Qg Z Z Z Z (Qg Z Z Z Z (Qa (Qx Z Z) Z (Qr ⟨Z,Z,Z,Z,Z,Z,congrArg (fun b=>some (Value.bool b)) (show true = (((((((!(x.queue.all (Xo g))) || (!(x.staged.all (Xo g)))) || (!(x.inputs.all (Xo g)))) || (!((Tv x.cells).all Kg))) || (((x.sums.length : Nat) : Int) != 4)) || (((x.black.length : Nat) : Int) != 4)) || (((x.caps.length : Nat) : Int) != 4)) by first | (rw [hg1,hg2,hg3,hg4,hg5] <;> rfl) | (simp [hg1,hg2,hg3,hg4,hg5];done) | (simp only [Qq] <;> simp)),trivial⟩ ⟨E,(by omega),h1,h2⟩)))))))))))))
      ·have hg5n : x.sums.length = 4:=by first | (have h:=of_decide_eq_false hg5;omega) | (have h:=hg5;simp at h;omega)
       refine Qn Z Z (Qb Td Z) Z (Qn Z Z (Qk Hb Z (h2.one 5 Z)) Z (Qn Z Z (Yc Tryz.underlying77 Z (hd7.ext E).len) Z (Qn Z Z (Qd Z) Z (Qn Z Z (Yu Z Z) Z (Qa (Q1 Z Z) Z (Qa (Qd Z) Z ?_))))))
       refine Y4 (gd:=49) Z Z (fun hg6=>?_) (fun hg6=>?_)
       ·have hg6n : ¬ x.black.length = 4:=by first | (have h:=of_decide_eq_true hg6;omega) | (have h:=hg6;simp at h;omega)
        refine Qg Z Z Z Z (Qg Z Z Z Z (Qg Z Z Z Z (Qg Z Z Z Z (Qg Z Z Z Z (Qa (Qx Z Z) Z (Qr ⟨Z,Z,Z,Z,Z,Z,congrArg (fun b=>some (Value.bool b)) (show true = (((((((!(x.queue.all (Xo g))) || (!(x.staged.all (Xo g)))) || (!(x.inputs.all (Xo g)))) || (!((Tv x.cells).all Kg))) || (((x.sums.length : Nat) : Int) != 4)) || (((x.black.length : Nat) : Int) != 4)) || (((x.caps.length : Nat) : Int) != 4)) by first | (rw [hg1,hg2,hg3,hg4,hg5,hg6] <;> rfl) | (simp [hg1,hg2,hg3,hg4,hg5,hg6];done) | (simp only [Qq] <;> simp)),trivial⟩ ⟨E,(by omega),h1,h2⟩))))))
       ·have hg6n : x.black.length = 4:=by first | (have h:=of_decide_eq_false hg6;omega) | (have h:=hg6;simp at h;omega)
        refine Qn Z Z (Qb Tc Z) Z (Qn Z Z (Qk Hb Z (h2.one 6 Z)) Z (Qn Z Z (Yc Tryz.underlying77 Z (hd8.ext E).len) Z (Qn Z Z (Qd Z) Z (Qn Z Z (Yu Z Z) Z (Qa (Q1 Z Z) Z (Qr ⟨Z,Z,Z,Z,Z,Z,congrArg (fun b=>some (Value.bool b)) (show (((x.caps.length : Nat) : Int) != 4) = (((((((!(x.queue.all (Xo g))) || (!(x.staged.all (Xo g)))) || (!(x.inputs.all (Xo g)))) || (!((Tv x.cells).all Kg))) || (((x.sums.length : Nat) : Int) != 4)) || (((x.black.length : Nat) : Int) != 4)) || (((x.caps.length : Nat) : Int) != 4)) by first | (rw [hg1,hg2,hg3,hg4,hg5,hg6] <;> rfl) | (simp [hg1,hg2,hg3,hg4,hg5,hg6];done) | (simp only [Qq] <;> simp)),trivial⟩ ⟨E,(by omega),h1,h2⟩))))))
 clear E h1 h2
 rintro w4 ⟨E,z7,h1,h2⟩
 refine Qc (Qt Z (fun hc1=>?_) (fun hc1=>?_))
 ·refine Qe (Qh [true] Z Z (Qa (Qf Z) Z (Qc (Qv (Qm Z Z E ?_)))))
  exact bf fun h=>by simp only [Xd,Bool.and_eq_true] at h;obtain ⟨⟨⟨⟨⟨⟨⟨⟨⟨q1,q2⟩,q3⟩,q4⟩,q5⟩,q6⟩,q7⟩,q8⟩,q9⟩,q10⟩:=h;simp only [beq_iff_eq] at q6 q7 q8;simp only [q1,q2,q3,q4,q6,q7,q8] at hc1;simp at hc1
 ·refine Qo (Qe (Qe (Qh [true] Z Z (Qa (Qf Z) Z (Qc (Q0 (Yp (fun (k : Nat)=>[(3,.pointer (some ⟨b2,0,none⟩)),(4,.bool false),(5,.int .i64 4),(6,.int .i64 ((k : Nat) : Int))]) (fun (k : Nat) w'=>Ext w w' ∧ w4.heap.size ≤ w'.heap.size ∧ Blk w' b1 ([o1,.int .i64 g.workers,.int .i64 g.cap]) ∧ Blk w' b2 ([o2,o3,o4,o5,o6,o7,o8,o9]) ∧ k ≤ x.inputs.length ∧ Ho k (fun j=>inAt x.inputs j) = true) (fun (k : Nat)=>x.inputs.length - k) 0 ⟨Z,Z,Z,Z,trivial⟩ ⟨E,Nat.le_refl _,h1,h2,Nat.zero_le _,Z⟩ ?_)))))))
  clear E h1 h2
  rintro k w8 ⟨E,z8,h1,h2,hk,hI1⟩
  have hmi:=hd4.1.1
  unfold maxLen at hmi
  refine Qe (Qe (Qh [true,true,true,true,true] Z Z (Qa (Qd Z) Z (Qa (Qb Vd Z) Z (Qa (Qk Xq Z (h2.one 2 Z)) Z (Qa (Yc Tryz.underlying66 Z (hd4.ext E).len) Z (Qa (Yi Z Z) Z (Qc (Qt Z (fun hc2=>?_) (fun hc2=>?_))))))))))
  ·have hc2n : k < x.inputs.length:=by first | (have h:=of_decide_eq_true hc2;omega) | (have h:=hc2;simp at h;omega)
   refine Qo (Qe (Q0 (Qe (Xx Xs [(0,true),(1,true),(2,true),(3,true),(4,true),(5,true),(6,true),(7,true),(8,true),(9,true),(10,true),(11,true),(12,true),(13,true),(14,true),(15,true),(16,true),(17,true),(18,true),(19,true),(20,true),(21,true),(22,true),(23,true),(24,true),(25,true),(26,true),(27,true),(28,true),(29,true),(30,true),(31,true),(32,true),(33,true),(34,true),(35,true),(36,true),(37,true),(38,true)] (by decide +kernel) Z (fun w9 e7=>?_)))))
   replace E:=E.trans e7;replace h1:=h1.ext e7;replace h2:=h2.ext e7
   have z9:=e7.size
   refine Qa (Qb Vd Z) Z (Qa (Qk Xq Z (h2.one 2 Z)) Z (Qa (Qd Z) Z ?_))
   have hi1 : k < x.inputs.length:=(by first | assumption | omega | (simp only [List.length_set];first | assumption | omega) | (simp only [List.getElem_set_self,List.length_set];first | assumption | omega) | (simp only [Yn,Yh,List.length_set];first | assumption | omega))
   refine Qa (Qz (i:=k) Kn Z Z (hd4.rd.ext E) hi1) Z (Qa (Qs G5 Z) Z (Qa (Qk Yt Z (((hd4.rd.ext E).get hi1).one 0 Z)) Z (Qa (Yu Z Z) Z (Qa (Qd Z) Z (Xf 31 [(3,.pointer (some ⟨b2,0,none⟩)),(4,.bool false),(5,.int .i64 4),(6,.int .i64 ((k : Nat) : Int)),(56,.int .i64 ((k : Nat) : Int)),(57,.pointer (some ⟨b2,2,none⟩)),(58,o4),(59,.int .i64 ((x.inputs.length : Nat) : Int)),(60,.bool (decide (((k : Nat) : Int) < ((x.inputs.length : Nat) : Int)))),(101,.bool (((((x.inputs[k]'hi1).op) != 0) || ((((x.inputs[k]'hi1).stamp).turn) != 0)) || ((decide (0 < ((k : Nat) : Int))) && (decide ((((x.inputs[k]'hi1).stamp).epoch) < (((List.getD x.inputs (k - 1) default).stamp).epoch))))))] (fun w'=>w9 = w') ?_ ?_)))))
   ·refine Y4 (gd:=70) Z Z (fun hg7=>?_) (fun hg7=>?_)
    ·refine Qg Z Z Z Z (Qg Z Z Z Z (Qg Z Z Z Z (Qg Z Z Z Z (Qg Z Z Z Z (Qg Z Z Z Z (Qg Z Z Z Z (Qg Z Z Z Z (Qa (Qx Z Z) Z (Qa (Qd Z) Z (Qg Z Z Z Z (Qg Z Z Z Z (Qg Z Z Z Z (Ya Z Z Z (Ya Z Z Z (Ya Z Z Z (Ya Z Z Z (Ya Z Z Z (Ya Z Z Z (Ya Z Z Z (Ya Z Z Z (Ya Z Z Z (Ya Z Z Z (Ya Z Z Z (Ya Z Z Z (Ya Z Z Z (Ya Z Z Z (Ya Z Z Z (Ya Z Z Z (Qg Z Z Z Z (Qa (Qx Z Z) Z (Qr ⟨Z,Z,Z,Z,Z,Z,Z,Z,Z,congrArg (fun b=>some (Value.bool b)) (show true = (((((x.inputs[k]'hi1).op) != 0) || ((((x.inputs[k]'hi1).stamp).turn) != 0)) || ((decide (0 < ((k : Nat) : Int))) && (decide ((((x.inputs[k]'hi1).stamp).epoch) < (((List.getD x.inputs (k - 1) default).stamp).epoch))))) by first | (rw [hg7] <;> rfl) | (simp [hg7];done) | (simp only [Qq] <;> simp)),trivial⟩ Z)))))))))))))))))))))))))))))))
    ·refine Qn Z Z (Qb Vd Z) Z (Qn Z Z (Qk Xq Z (h2.one 2 Z)) Z (Qn Z Z (Qd Z) Z (Qn Z Z (Qz (i:=k) Kn Z Z (hd4.rd.ext E) hi1) Z (Qn Z Z (Qs U6 Z) Z (Qn Z Z (Qs Tg Z) Z (Qn Z Z (Qk Yt Z (((hd4.rd.ext E).get hi1).one 2 Z)) Z (Qn Z Z (Yu Z Z) Z (Qa (Q1 Z Z) Z (Qa (Qd Z) Z ?_)))))))))
     refine Y4 (gd:=80) Z Z (fun hg8=>?_) (fun hg8=>?_)
     ·refine Qg Z Z Z Z (Qg Z Z Z Z (Qg Z Z Z Z (Ya Z Z Z (Ya Z Z Z (Ya Z Z Z (Ya Z Z Z (Ya Z Z Z (Ya Z Z Z (Ya Z Z Z (Ya Z Z Z (Ya Z Z Z (Ya Z Z Z (Ya Z Z Z (Ya Z Z Z (Ya Z Z Z (Ya Z Z Z (Ya Z Z Z (Ya Z Z Z (Qg Z Z Z Z (Qa (Qx Z Z) Z (Qr ⟨Z,Z,Z,Z,Z,Z,Z,Z,Z,congrArg (fun b=>some (Value.bool b)) (show true = (((((x.inputs[k]'hi1).op) != 0) || ((((x.inputs[k]'hi1).stamp).turn) != 0)) || ((decide (0 < ((k : Nat) : Int))) && (decide ((((x.inputs[k]'hi1).stamp).epoch) < (((List.getD x.inputs (k - 1) default).stamp).epoch))))) by first | (rw [hg7,hg8] <;> rfl) | (simp [hg7,hg8];done) | (simp only [Qq] <;> simp)),trivial⟩ Z)))))))))))))))))))))
     ·refine Qn Z Z (Qd Z) Z (Qn Z Z (G8 Z Z) Z (Qn Z Z (Qd Z) Z ?_))
      refine Y4 (gd:=83) Z Z (fun hg9=>?_) (fun hg9=>?_)
      ·have hg9n : k > 0:=by first | (have h:=of_decide_eq_true hg9;omega) | (have h:=hg9;simp at h;omega)
       refine Qn Z Z (Qb Vd Z) Z (Qn Z Z (Qk Xq Z (h2.one 2 Z)) Z (Qn Z Z (Qd Z) Z (Qn Z Z (K6 Z Z (sub_nat (by omega) (by unfold maxLen;omega))) Z (Qn Z Z (Qz (i:=(k - 1)) Kn Z Z (hd4.rd.ext E) (by first | assumption | omega | (simp only [List.length_set];first | assumption | omega) | (simp only [List.getElem_set_self,List.length_set];first | assumption | omega) | (simp only [Yn,Yh,List.length_set];first | assumption | omega))) Z (Qn Z Z (Qs U6 Z) Z (Qn Z Z (Qs V9 Z) Z (Qn Z Z (Qk Yt Z ((RdS.getD (hd4.rd.ext E) (i:=(k - 1)) (by first | assumption | omega | (simp only [List.length_set];first | assumption | omega) | (simp only [List.getElem_set_self,List.length_set];first | assumption | omega) | (simp only [Yn,Yh,List.length_set];first | assumption | omega))).one 1 Z)) Z (Qn Z Z (Qb Vd Z) Z (Qn Z Z (Qk Xq Z (h2.one 2 Z)) Z (Qn Z Z (Qd Z) Z (Qn Z Z (Qz (i:=k) Kn Z Z (hd4.rd.ext E) hi1) Z (Qn Z Z (Qs U6 Z) Z (Qn Z Z (Qs V9 Z) Z (Qn Z Z (Qk Yt Z (((hd4.rd.ext E).get hi1).one 1 Z)) Z (Qn Z Z (G8 Z Z) Z (Qn Z Z (Qx Z Z) Z (Qa (Q1 Z Z) Z (Qr ⟨Z,Z,Z,Z,Z,Z,Z,Z,Z,congrArg (fun b=>some (Value.bool b)) (show (decide ((((x.inputs[k]'hi1).stamp).epoch) < (((List.getD x.inputs (k - 1) default).stamp).epoch))) = (((((x.inputs[k]'hi1).op) != 0) || ((((x.inputs[k]'hi1).stamp).turn) != 0)) || ((decide (0 < ((k : Nat) : Int))) && (decide ((((x.inputs[k]'hi1).stamp).epoch) < (((List.getD x.inputs (k - 1) default).stamp).epoch))))) by first | (rw [hg7,hg8,hg9] <;> rfl) | (simp [hg7,hg8,hg9];done) | (simp only [Qq] <;> simp)),trivial⟩ Z))))))))))))))))))
      ·have hg9n : ¬ k > 0:=by first | (have h:=of_decide_eq_false hg9;omega) | (have h:=hg9;simp at h;omega)
       refine Qg Z Z Z Z (Qg Z Z Z Z (Qg Z Z Z Z (Qg Z Z Z Z (Qg Z Z Z Z (Qg Z Z Z Z (Qg Z Z Z Z (Qg Z Z Z Z (Qg Z Z Z Z (Qg Z Z Z Z (Qg Z Z Z Z (Qg Z Z Z Z (Qg Z Z Z Z (Qg Z Z Z Z (Qg Z Z Z Z (Qg Z Z Z Z (Qn Z Z (Q1 Z Z) Z (Qa (Q1 Z Z) Z (Qr ⟨Z,Z,Z,Z,Z,Z,Z,Z,Z,congrArg (fun b=>some (Value.bool b)) (show false = (((((x.inputs[k]'hi1).op) != 0) || ((((x.inputs[k]'hi1).stamp).turn) != 0)) || ((decide (0 < ((k : Nat) : Int))) && (decide ((((x.inputs[k]'hi1).stamp).epoch) < (((List.getD x.inputs (k - 1) default).stamp).epoch))))) by first | (rw [hg7,hg8,hg9] <;> rfl) | (simp [hg7,hg8,hg9];done) | (simp only [Qq] <;> simp)),trivial⟩ Z))))))))))))))))))
   rintro _ rfl
   refine Qc (Qt Z (fun hc3=>?_) (fun hc3=>?_))
   ·refine Qe (Qh [true] Z Z (Qa (Qf Z) Z (Qc (Qv (Q2 (Yv (Q2 (Qm Z Z E ?_))))))))
    exact bf fun h=>by simp only [Xd,Bool.and_eq_true] at h;obtain ⟨⟨⟨⟨⟨⟨⟨⟨⟨q1,q2⟩,q3⟩,q4⟩,q5⟩,q6⟩,q7⟩,q8⟩,q9⟩,q10⟩:=h;have:=G7 q5 (by assumption);rw [A9 (by assumption),hc3] at this;cases this
   ·refine Qo (Q6 (Y0 (Qh [true,true,true] Z Z (Qa (Qd Z) Z (Qa (Ye Z Z (Y3 hc2n (hd4.ext E).1.1)) Z (Qa (Qf Z) Z (Qc (Q6 (Yk (k + 1) (by omega) ⟨Z,Z,Z,Z,trivial⟩ ⟨E,(by omega),h1,h2,(by omega),Ax hI1 ((A9 (by assumption)).trans (congrArg not hc3))⟩)))))))))
  ·have hc2n : ¬ k < x.inputs.length:=by first | (have h:=of_decide_eq_false hc2;omega) | (have h:=hc2;simp at h;omega)
   refine Yq (Q5 (Q3 ?_))
   refine Qe (Qe (Qh [true] Z Z (Qa (Qf Z) Z (Qc (Q0 (Yp (fun (k : Nat)=>[(3,.pointer (some ⟨b2,0,none⟩)),(4,.bool false),(5,.int .i64 4),(7,.int .i64 ((k : Nat) : Int))]) (fun (k : Nat) w'=>Ext w w' ∧ w8.heap.size ≤ w'.heap.size ∧ Blk w' b1 ([o1,.int .i64 g.workers,.int .i64 g.cap]) ∧ Blk w' b2 ([o2,o3,o4,o5,o6,o7,o8,o9]) ∧ k ≤ 4 ∧ (x.sums.take k).all (Yr · (-1000000) 1000000) = true) (fun (k : Nat)=>4 - k) 0 ⟨Z,Z,Z,Z,trivial⟩ ⟨E,Nat.le_refl _,h1,h2,Nat.zero_le _,Z⟩ ?_))))))
   clear E h1 h2
   rintro k w11 ⟨E,z10,h1,h2,hk,hI2⟩
   have hs4:=wk_len hc1
   refine Qe (Qe (Qh [true,true,true] Z Z (Qa (Qd Z) Z (Qa (Qd Z) Z (Qa (Yi Z Z) Z (Qc (Qt Z (fun hc4=>?_) (fun hc4=>?_))))))))
   ·have hc4n : k < 4:=by first | (have h:=of_decide_eq_true hc4;omega) | (have h:=hc4;simp at h;omega)
    refine Qo (Qe (Q0 (Qe (Qh [true,true,true,true,true,false,true] Z Z (Qa (Qb Vc Z) Z (Qa (Qk K0 Z (h2.one 4 Z)) Z (Qa (Qd Z) Z ?_)))))))
    have hi2 : k < x.sums.length:=(by first | assumption | omega | (simp only [List.length_set];first | assumption | omega) | (simp only [List.getElem_set_self,List.length_set];first | assumption | omega) | (simp only [Yn,Yh,List.length_set];first | assumption | omega))
    refine Qa (Qz (i:=k) Ux Z Z (hd6.rd.ext E) hi2) Z (Qa (Qk Yt Z (((hd6.rd.ext E).get hi2).one 0 Z)) Z (Qw Tryz.call106 Z (s_l01In (x.sums[k]'hi2) (-1000000) 1000000 _ ) Z (fun _ w12 e8 hv=>?_)))
    subst hv
    replace E:=E.trans e8;replace h1:=h1.ext e8;replace h2:=h2.ext e8
    have z11:=e8.size
    refine Qa (Yy Z) Z (Qc (Qt Z (fun hc5=>?_) (fun hc5=>?_)))
    ·refine Qe (Qh [true] Z Z (Qa (Qf Z) Z (Qc (Qv (Q2 (Yv (Q2 (Qm Z Z E ?_))))))))
     exact bf fun h=>by simp only [Xd,Bool.and_eq_true] at h;obtain ⟨⟨⟨⟨⟨⟨⟨⟨⟨q1,q2⟩,q3⟩,q4⟩,q5⟩,q6⟩,q7⟩,q8⟩,q9⟩,q10⟩:=h;have:=List.all_eq_true.1 q9 _ (List.getElem_mem (by omega));simp only [this] at hc5;cases hc5
    ·refine Qo (Q6 (Y0 (Qh [true,true,true] Z Z (Qa (Qd Z) Z (Qa (Ye Z Z (Y3 hc4n (by first | assumption | (unfold maxLen;omega)))) Z (Qa (Qf Z) Z (Qc (Q6 (Yk (k + 1) (by omega) ⟨Z,Z,Z,Z,trivial⟩ ⟨E,(by omega),h1,h2,(by omega),Kh hI2 (by omega) (by simpa using hc5)⟩)))))))))
   ·have hc4n : ¬ k < 4:=by first | (have h:=of_decide_eq_false hc4;omega) | (have h:=hc4;simp at h;omega)
    refine Yq (Q5 (Q3 ?_))
    refine Qe (Qe (Qh [true] Z Z (Qa (Qf Z) Z (Qc (Q0 (Yp (fun (i : Nat)=>[(3,.pointer (some ⟨b2,0,none⟩)),(4,.bool false),(8,.int .i64 ((i : Nat) : Int))]) (fun (i : Nat) w'=>Ext w w' ∧ w11.heap.size ≤ w'.heap.size ∧ Blk w' b1 ([o1,.int .i64 g.workers,.int .i64 g.cap]) ∧ Blk w' b2 ([o2,o3,o4,o5,o6,o7,o8,o9]) ∧ i ≤ x.dones.length ∧ Ho i (fun j=>Vz x.dones j) = true) (fun (i : Nat)=>x.dones.length - i) 0 ⟨Z,Z,Z,trivial⟩ ⟨E,Nat.le_refl _,h1,h2,Nat.zero_le _,Z⟩ ?_))))))
    clear E h1 h2
    rintro i w13 ⟨E,z12,h1,h2,hle,hI3⟩
    have hmd:=hd9.1.1
    unfold maxLen at hmd
    refine Qe (Qe (Qh [true,true,true,true,true] Z Z (Qa (Qd Z) Z (Qa (Qb V7 Z) Z (Qa (Qk Aq Z (h2.one 7 Z)) Z (Qa (Yc Tryz.underlying78 Z (hd9.ext E).len) Z (Qa (Yi Z Z) Z (Qc (Qt Z (fun hc6=>?_) (fun hc6=>?_))))))))))
    ·have hc6n : i < x.dones.length:=by first | (have h:=of_decide_eq_true hc6;omega) | (have h:=hc6;simp at h;omega)
     refine Qo (Qe (Q0 (Qe (Qe (Qh [true,true,true,true,true,true,false,true] Z Z (Qa (Qb V7 Z) Z (Qa (Qk Aq Z (h2.one 7 Z)) Z (Qa (Qd Z) Z ?_))))))))
     have hi3 : i < x.dones.length:=(by first | assumption | omega | (simp only [List.length_set];first | assumption | omega) | (simp only [List.getElem_set_self,List.length_set];first | assumption | omega) | (simp only [Yn,Yh,List.length_set];first | assumption | omega))
     refine Qa (Qz (i:=i) T1 Z Z (hd9.rd.ext E) hi3) Z (Qa (Qs Vy Z) Z (Qa (Qk Yt Z (((hd9.rd.ext E).get hi3).one 0 Z)) Z (Qw Tryz.call106 Z (s_l01In ((x.dones[i]'hi3).epoch) 0 3 _ ) Z (fun _ w14 e9 hv=>?_))))
     subst hv
     replace E:=E.trans e9;replace h1:=h1.ext e9;replace h2:=h2.ext e9
     have z13:=e9.size
     refine Qa (Yy Z) Z (Qc (Qt Z (fun hc7=>?_) (fun hc7=>?_)))
     ·refine Qe (Qh [true] Z Z (Qa (Qf Z) Z (Qc (Qv (Q2 (Yv (Q2 (Qm Z Z E ?_))))))))
      exact bf fun h=>by simp only [Xd,Bool.and_eq_true] at h;obtain ⟨⟨⟨⟨⟨⟨⟨⟨⟨q1,q2⟩,q3⟩,q4⟩,q5⟩,q6⟩,q7⟩,q8⟩,q9⟩,q10⟩:=h;have:=G7 q10 (by assumption);rw [Gf (by assumption)] at this;simp only [hc7,Bool.true_or] at this;cases this
     ·refine Qo (Qe (Qh [true] Z Z (Qa (Qf Z) Z (Qc (Q0 (Yp (fun (j : Nat)=>[(3,.pointer (some ⟨b2,0,none⟩)),(4,.bool false),(8,.int .i64 ((i : Nat) : Int)),(9,.int .i64 ((j : Nat) : Int))]) (fun (j : Nat) w'=>Ext w w' ∧ w14.heap.size ≤ w'.heap.size ∧ Blk w' b1 ([o1,.int .i64 g.workers,.int .i64 g.cap]) ∧ Blk w' b2 ([o2,o3,o4,o5,o6,o7,o8,o9]) ∧ j ≤ i ∧ (x.dones.take j).any (fun d=>d.epoch == (x.dones[i]'hi3).epoch) = false) (fun (j : Nat)=>i - j) 0 ⟨Z,Z,Z,Z,trivial⟩ ⟨E,Nat.le_refl _,h1,h2,Nat.zero_le _,Z⟩ ?_))))))
      clear E h1 h2
      rintro j w15 ⟨E,z14,h1,h2,hk,hJ⟩
      refine Qe (Qe (Qh [true,true,true] Z Z (Qa (Qd Z) Z (Qa (Qd Z) Z (Qa (Yi Z Z) Z (Qc (Qt Z (fun hc8=>?_) (fun hc8=>?_))))))))
      ·have hc8n : j < i:=by first | (have h:=of_decide_eq_true hc8;omega) | (have h:=hc8;simp at h;omega)
       refine Qo (Qe (Q0 (Qe (Xx Xs [(0,true),(1,true),(2,true),(3,true),(4,true),(5,true),(6,true),(7,true),(8,true),(9,true),(10,true),(11,true),(12,true)] (by decide +kernel) Z (fun w16 e10=>?_)))))
       replace E:=E.trans e10;replace h1:=h1.ext e10;replace h2:=h2.ext e10
       have z15:=e10.size
       refine Qa (Qb V7 Z) Z (Qa (Qk Aq Z (h2.one 7 Z)) Z (Qa (Qd Z) Z ?_))
       have hi4 : j < x.dones.length:=(by first | assumption | omega | (simp only [List.length_set];first | assumption | omega) | (simp only [List.getElem_set_self,List.length_set];first | assumption | omega) | (simp only [Yn,Yh,List.length_set];first | assumption | omega))
       refine Qa (Qz (i:=j) T1 Z Z (hd9.rd.ext E) hi4) Z (Qa (Qs Vy Z) Z (Qa (Qk Yt Z (((hd9.rd.ext E).get hi4).one 0 Z)) Z (Qa (Qb V7 Z) Z (Qa (Qk Aq Z (h2.one 7 Z)) Z (Qa (Qd Z) Z (Qa (Qz (i:=i) T1 Z Z (hd9.rd.ext E) hi3) Z (Qa (Qs Vy Z) Z (Qa (Qk Yt Z (((hd9.rd.ext E).get hi3).one 0 Z)) Z (Qa (Xm Z Z) Z (Qc (Qt Z (fun hc9=>?_) (fun hc9=>?_))))))))))))
       ·refine Qe (Qh [true] Z Z (Qa (Qf Z) Z (Qc (Qv (Q2 (Yv (Q2 (Q2 (Yv (Q2 (Qm Z Z E ?_)))))))))))
        exact bf fun h=>by simp only [Xd,Bool.and_eq_true] at h;obtain ⟨⟨⟨⟨⟨⟨⟨⟨⟨q1,q2⟩,q3⟩,q4⟩,q5⟩,q6⟩,q7⟩,q8⟩,q9⟩,q10⟩:=h;have:=G7 (j:=i) q10 (by omega);exact done_n this (by omega) (by assumption)
       ·refine Qo (Q6 (Y0 (Qh [true,true,true] Z Z (Qa (Qd Z) Z (Qa (Ye Z Z (Y3 hc8n (by first | assumption | (unfold maxLen;omega)))) Z (Qa (Qf Z) Z (Qc (Q6 (Yk (j + 1) (by omega) ⟨Z,Z,Z,Z,trivial⟩ ⟨E,(by omega),h1,h2,(by omega),any_step hJ (by omega) (by assumption)⟩)))))))))
      ·have hc8n : ¬ j < i:=by first | (have h:=of_decide_eq_false hc8;omega) | (have h:=hc8;simp at h;omega)
       refine Yq (Q5 (Q3 ?_))
       refine Q6 (Y0 (Qh [true,true,true] Z Z (Qa (Qd Z) Z (Qa (Ye Z Z (Y3 hc6n (hd9.ext E).1.1)) Z (Qa (Qf Z) Z (Qc (Q6 (Yk (i + 1) (by omega) ⟨Z,Z,Z,trivial⟩ ⟨E,(by omega),h1,h2,(by omega),(Ax hI3 (done_s (h1:=hi3) (by assumption) hJ (by omega)))⟩))))))))
    ·have hc6n : ¬ i < x.dones.length:=by first | (have h:=of_decide_eq_false hc6;omega) | (have h:=hc6;simp at h;omega)
     refine Yq (Q5 (Q3 ?_))
     refine Qe (Qh [true] Z Z (Qa (Qf Z) Z (Qc (Qv (Qm Z Z E ?_)))))
     exact wk_yes2 hc1 (Cl hI1 (by omega)) (Gy hI2 (by have:=wk_len hc1;omega)) (Cl hI3 (by omega))

set_option maxRecDepth 20000 in
theorem c_copyNode (cx : List Value) (x : Node) (w : World) (hx : Dat.R w 0 w.heap.size cx x) (hb : x.outs.length ≤ 1048576) : Ct Tryz.prog 113 [.agg cx.toArray] w (fun v w'=>∃ cs,v = .agg cs.toArray ∧ Own1.O w' w.heap.size w'.heap.size cs x):=by
 refine Ym Tryz.func113 Z Tryz.ntmps113 Z ?_
 obtain ⟨o1,rfl,hd1⟩:=Node.op hx
 refine Q8 [(0,.agg [.int .i64 x.kind,.int .i64 x.a,.int .i64 x.b,o1].toArray)] ⟨Z,trivial⟩ ?_
 have E : Ext w w:=Ext.refl w
 refine Qe (Qh [false,false] Z Z (Y1 Z Z (fun b1 w1 e1 s1 h1=>?_)))
 have g_b1 : w.heap.size ≤ b1:=by have:=E.size;omega
 have y_b1:=h1.lt
 replace E:=E.trans e1
 have z1:=e1.size
 refine Yo Uf Z (fun b2 w2 e2 s2 h2=>?_)
 have g_b2 : w.heap.size ≤ b2:=by have:=E.size;omega
 have y_b2:=h2.lt
 replace E:=E.trans e2;replace h1:=h1.ext e2
 have z2:=e2.size
 refine Qc (Qe (Qh [true,true,false,true,false] Z Z (Qa (Qb Xu Z) Z (Qa (Qk K0 Z (h1.one 3 Z)) Z (Cc Ux Z Z (Own.nil w2 w2.heap.size w2.heap.size 1) (RdS.src (hd1.rd.ext E)) (Xp _) (by simp only [Yz,List.length_nil];simp only [Enc.sz];omega) (by decide) (by omega) (by omega) Z Z (fun v1 w3 m1 ho1=>?_))))))
 replace E:=E.step m1 (fun g hg=>by have:=Own.blk (Own.nil w2 w2.heap.size w2.heap.size 1) g hg;omega);replace h1:=h1.mod m1 (fun g hg=>by have:=Own.blk (Own.nil w2 w2.heap.size w2.heap.size 1) g hg;omega);replace h2:=h2.mod m1 (fun g hg=>by have:=Own.blk (Own.nil w2 w2.heap.size w2.heap.size 1) g hg;omega)
 have z3:=m1.size
 refine Qa (Qb Xu Z) Z (Yj (cs':=[.int .i64 x.kind,.int .i64 x.a,.int .i64 x.b,v1]) K0 Z Z ho1.one h1 (Nat.le_of_ble_eq_true Z) Z (fun w4 m2 h1'=>?_))
 replace h1:=h1'
 replace E:=E.step m2 (fun g hg=>by cases hg;omega);replace h2:=h2.mod m2 (fun g hg=>by cases hg;omega);replace ho1:=ho1.mod m2 (fun g hg=>by cases hg;omega)
 have z4:=m2.size
 refine Qc (Qe (Qh [true,false] Z Z (Qa (Qy Uf Z h1.at Z) Z (Q4 (cs':=[.int .i64 x.kind,.int .i64 x.a,.int .i64 x.b,v1]) Uf Z Z Z (Qj Z (Qj Z (Qj Z (Qj ho1.one Z)))) h2 (Nat.le_of_ble_eq_true Z) Z (fun w5 m3 h2'=>?_)))))
 replace h2:=h2'
 replace E:=E.step m3 (fun g hg=>by cases hg;omega);replace h1:=h1.mod m3 (fun g hg=>by cases hg;omega);replace ho1:=ho1.mod m3 (fun g hg=>by cases hg;omega)
 have z5:=m3.size
 refine Qc (Qv (X3 Z Z (Yd Uf h2.at Z) E ?_))
 exact ⟨_,Z,Node.mkO (⟨x.kind,x.a,x.b,[] ++ x.outs⟩ : Node) ⟨trivial,trivial⟩ (Own.widen ho1 (by omega) (by omega))⟩

set_option maxRecDepth 20000 in
theorem markRecordS (vxs : Value) (lo hi : Nat) (xs : List Record) (k : Nat) (w : World) (hxs : Own w lo hi 5 vxs (List.flatMap (Enc.enc (α:=Record)) xs)) (hb : k + xs.length * 5 ≤ 1099511627776) : CtR Tryz.prog 78 [vxs,.int .i64 ((k : Nat) : Int)] w lo hi (fun v w'=>v = .int .i64 ((k + 5 * xs.length : Nat) : Int) ∧ Own w' lo hi 5 vxs (List.flatMap (Enc.enc (α:=Record)) (Vv 5 Kr k xs.length))):=by
 refine V0 Tryz.func78 Z Tryz.ntmps78 Z ?_
 refine Q8 [(0,vxs),(1,.int .i64 ((k : Nat) : Int))] ⟨Z,Z,trivial⟩ ?_
 have E : ModR w w lo hi:=ModR.refl w lo hi
 refine Qe (Qh [true] Z Z (Qa (Qf Z) Z (Qc (Qe (Qe (Qh [true] Z Z (Qa (Qf Z) Z (Qc (Q0 (Yp (fun (xq : Nat × Nat × List Record)=>let ⟨i,q,bs⟩:=xq;[(0,vxs),(1,.int .i64 ((q : Nat) : Int)),(4,.int .i64 0),(5,.int .i64 ((i : Nat) : Int))]) (fun (xq : Nat × Nat × List Record) w'=>let ⟨i,q,bs⟩:=xq;ModR w w' lo hi ∧ w.heap.size ≤ w'.heap.size ∧ i + bs.length = xs.length ∧ q = k + 5 * i ∧ Own w' lo hi 5 vxs (List.flatMap (Enc.enc (α:=Record)) (Vv 5 Kr k i ++ bs))) (fun (xq : Nat × Nat × List Record)=>let ⟨i,q,bs⟩:=xq;xs.length - i) (0,k,xs) ⟨Z,Z,Z,Z,trivial⟩ ⟨E,Nat.le_refl _,(by simp),(by simp),(by simpa [Vv] using hxs)⟩ ?_))))))))))
 clear E hxs
 rintro ⟨i,q,bs⟩ w1 ⟨E,z1,hi,hq,hxs⟩
 refine Q8 [(0,vxs),(1,.int .i64 ((q : Nat) : Int)),(4,.int .i64 0),(5,.int .i64 ((i : Nat) : Int))] ⟨Z,Z,Z,Z,trivial⟩ ?_
 refine Qe (Qe (Qh [true,true,true,true] Z Z (Qa (Qd Z) Z (Qa (Qd Z) Z (Qa (Yc Tryz.underlying66 Z (Own.lenE (by decide) hxs (by simp only [List.length_append,Qi,List.length_cons];omega))) Z (Qa (Yi Z Z) Z (Qc (Qt Z (fun hc1=>?_) (fun hc1=>?_)))))))))
 ·rcases bs with _ | ⟨x,bs⟩
  ·exact absurd hi (by have h:=hc1;simp at h ⊢;omega)
  simp only [List.length_cons] at hi
  have hc1n : i < xs.length:=by first | (have h:=of_decide_eq_true hc1;omega) | (have h:=hc1;simp at h;omega)
  refine Qo (Qe (Q0 (Qe (Qh [true,true,true,true,true,false] Z Z (Qa (Qd Z) Z (Qa (Qd Z) Z (Qa (Qd Z) Z (Qa (Qz Kn Z Z (Own.rd (by decide) hxs) (by simp only [List.length_append,Qi,List.length_cons];omega)) Z (Qa (Qs G5 Z) Z (Xc (α:=Record) (i:=i) (f:=0) (⟨((q : Nat) : Int),x.stamp,x.key,x.val⟩ : Record) Yt Z Z Z Z hxs (Qi _ _ _ _) (by decide) Z (fun w2 m1 hxs'=>?_)))))))))))
  have hq:=hxs.blk
  replace hxs:=hxs'
  replace E:=E.mod m1 (fun g hg=>by have:=hq g hg;omega)
  have z2:=m1.size
  clear hq
  refine Qc (Qe (Qh [true,true,true] Z Z (Qa (Qd Z) Z (Qa (Ye Z Z (Yg (by unfold maxLen;omega))) Z (Qa (Qf Z) Z (Qc (Qe (Qh [true,true,true,true,true,true,false] Z Z (Qa (Qd Z) Z (Qa (Qd Z) Z (Qa (Qd Z) Z (Qa (Qz Kn Z Z (Own.rd (by decide) hxs) (by simp only [List.length_append,Qi,List.length_cons];omega)) Z (Qa (Qs U6 Z) Z (Qa (Qs V9 Z) Z (Xc (α:=Record) (i:=i) (f:=1) (⟨((q : Nat) : Int),(⟨((q + 1 : Nat) : Int),x.stamp.turn⟩ : Stamp),x.key,x.val⟩ : Record) Yt Z Z Z Z hxs (Qi _ _ _ _) (by decide) Z (fun w3 m2 hxs'=>?_))))))))))))))))
  have hq:=hxs.blk
  replace hxs:=hxs'
  replace E:=E.mod m2 (fun g hg=>by have:=hq g hg;omega)
  have z3:=m2.size
  clear hq
  refine Qc (Qe (Qh [true,true,true] Z Z (Qa (Qd Z) Z (Qa (Ye Z Z (Yg (by unfold maxLen;omega))) Z (Qa (Qf Z) Z (Qc (Qe (Qh [true,true,true,true,true,true,false] Z Z (Qa (Qd Z) Z (Qa (Qd Z) Z (Qa (Qd Z) Z (Qa (Qz Kn Z Z (Own.rd (by decide) hxs) (by simp only [List.length_append,Qi,List.length_cons];omega)) Z (Qa (Qs U6 Z) Z (Qa (Qs Tg Z) Z (Xc (α:=Record) (i:=i) (f:=2) (⟨((q : Nat) : Int),(⟨((q + 1 : Nat) : Int),((q + 1 + 1 : Nat) : Int)⟩ : Stamp),x.key,x.val⟩ : Record) Yt Z Z Z Z hxs (Qi _ _ _ _) (by decide) Z (fun w4 m3 hxs'=>?_))))))))))))))))
  have hq:=hxs.blk
  replace hxs:=hxs'
  replace E:=E.mod m3 (fun g hg=>by have:=hq g hg;omega)
  have z4:=m3.size
  clear hq
  refine Qc (Qe (Qh [true,true,true] Z Z (Qa (Qd Z) Z (Qa (Ye Z Z (Yg (by unfold maxLen;omega))) Z (Qa (Qf Z) Z (Qc (Qe (Qh [true,true,true,true,true,false] Z Z (Qa (Qd Z) Z (Qa (Qd Z) Z (Qa (Qd Z) Z (Qa (Qz Kn Z Z (Own.rd (by decide) hxs) (by simp only [List.length_append,Qi,List.length_cons];omega)) Z (Qa (Qs Tf Z) Z (Xc (α:=Record) (i:=i) (f:=3) (⟨((q : Nat) : Int),(⟨((q + 1 : Nat) : Int),((q + 1 + 1 : Nat) : Int)⟩ : Stamp),((q + 1 + 1 + 1 : Nat) : Int),x.val⟩ : Record) Yt Z Z Z Z hxs (Qi _ _ _ _) (by decide) Z (fun w5 m4 hxs'=>?_)))))))))))))))
  have hq:=hxs.blk
  replace hxs:=hxs'
  replace E:=E.mod m4 (fun g hg=>by have:=hq g hg;omega)
  have z5:=m4.size
  clear hq
  refine Qc (Qe (Qh [true,true,true] Z Z (Qa (Qd Z) Z (Qa (Ye Z Z (Yg (by unfold maxLen;omega))) Z (Qa (Qf Z) Z (Qc (Qe (Qh [true,true,true,true,true,false] Z Z (Qa (Qd Z) Z (Qa (Qd Z) Z (Qa (Qd Z) Z (Qa (Qz Kn Z Z (Own.rd (by decide) hxs) (by simp only [List.length_append,Qi,List.length_cons];omega)) Z (Qa (Qs C4 Z) Z (Xc (α:=Record) (i:=i) (f:=4) (⟨((q : Nat) : Int),(⟨((q + 1 : Nat) : Int),((q + 1 + 1 : Nat) : Int)⟩ : Stamp),((q + 1 + 1 + 1 : Nat) : Int),((q + 1 + 1 + 1 + 1 : Nat) : Int)⟩ : Record) Yt Z Z Z Z hxs (Qi _ _ _ _) (by decide) Z (fun w6 m5 hxs'=>?_)))))))))))))))
  have hq:=hxs.blk
  replace hxs:=hxs'
  replace E:=E.mod m5 (fun g hg=>by have:=hq g hg;omega)
  have z6:=m5.size
  clear hq
  refine Qc (Qh [true,true,true] Z Z (Qa (Qd Z) Z (Qa (Ye Z Z (Yg (by unfold maxLen;omega))) Z (Qa (Qf Z) Z (Qc (Q6 (Y0 (Qh [true,true,true] Z Z (Qa (Qd Z) Z (Qa (Ye Z Z (Yg (by unfold maxLen;omega))) Z (Qa (Qf Z) Z (Qc (Q6 (Yk (i + 1,q + 1 + 1 + 1 + 1 + 1,bs) (by simp;omega) ⟨rfl,rfl,rfl,rfl,trivial⟩ ⟨E,(by omega),(by omega),(by omega),(by subst hq;rw [← G3];exact hxs)⟩))))))))))))))
 ·have hc1n : ¬ i < xs.length:=by first | (have h:=of_decide_eq_false hc1;omega) | (have h:=hc1;simp at h;omega)
  refine Yq (Q5 (Q3 ?_))
  refine Qe (Qh [true,true] Z Z (Qa (Qd Z) Z (Qa (Qf Z) Z (Qc (Qv (Qm Z Z E ?_))))))
  exact ⟨by subst hq;rw [show i = xs.length from by omega],by obtain rfl : bs = []:=List.eq_nil_of_length_eq_zero (by omega);rw [show xs.length = i from by simp at hi;omega];simpa using hxs⟩

set_option maxRecDepth 20000 in
theorem heldRecordS (vxs : Value) (xs : List Record) (k : Nat) (w : World) (hxs : RdS w vxs xs) (hm : xs = Vv 5 Kr k xs.length) (hb : k + xs.length * 5 ≤ 1099511627776) : Ct Tryz.prog 84 [vxs,.int .i64 ((k : Nat) : Int)] w (fun v _=>v = .int .i64 ((k + 5 * xs.length : Nat) : Int)):=by
 refine Ym Tryz.func84 Z Tryz.ntmps84 Z ?_
 refine Q8 [(0,vxs),(1,.int .i64 ((k : Nat) : Int))] ⟨Z,Z,trivial⟩ ?_
 have E : Ext w w:=Ext.refl w
 refine Qe (Qh [true] Z Z (Qa (Qf Z) Z (Qc (Qe (Qe (Qh [true] Z Z (Qa (Qf Z) Z (Qc (Q0 (Yp (fun (xq : Nat × Nat)=>let ⟨i,q⟩:=xq;[(0,vxs),(1,.int .i64 ((q : Nat) : Int)),(4,.int .i64 0),(5,.int .i64 ((i : Nat) : Int))]) (fun (xq : Nat × Nat) w'=>let ⟨i,q⟩:=xq;Ext w w' ∧ w.heap.size ≤ w'.heap.size ∧ i ≤ xs.length ∧ q = k + 5 * i) (fun (xq : Nat × Nat)=>let ⟨i,q⟩:=xq;xs.length - i) (0,k) ⟨Z,Z,Z,Z,trivial⟩ ⟨E,Nat.le_refl _,Nat.zero_le _,(by simp)⟩ ?_))))))))))
 clear E
 rintro ⟨i,q⟩ w1 ⟨E,z1,hi,hq⟩
 refine Q8 [(0,vxs),(1,.int .i64 ((q : Nat) : Int)),(4,.int .i64 0),(5,.int .i64 ((i : Nat) : Int))] ⟨Z,Z,Z,Z,trivial⟩ ?_
 refine Qe (Qe (Qh [true,true,true,true] Z Z (Qa (Qd Z) Z (Qa (Qd Z) Z (Qa (Yc Tryz.underlying66 Z (hxs.ext E).len) Z (Qa (Yi Z Z) Z (Qc (Qt Z (fun hc1=>?_) (fun hc1=>?_)))))))))
 ·have hc1n : i < xs.length:=by first | (have h:=of_decide_eq_true hc1;omega) | (have h:=hc1;simp at h;omega)
  refine Qo (Qe (Q0 (Qe (Qe (Qh [true,true,true,true,true,true,true] Z Z (Qa (Qd Z) Z (Qa (Qd Z) Z ?_)))))))
  have hi1 : i < xs.length:=(by first | assumption | omega | (simp only [List.length_set];first | assumption | omega) | (simp only [List.getElem_set_self,List.length_set];first | assumption | omega) | (simp only [Yn,Yh,List.length_set];first | assumption | omega))
  refine Qa (Qz (i:=i) Kn Z Z (hxs.ext E) hi1) Z (Qa (Qs G5 Z) Z (Qa (Qk Yt Z (((hxs.ext E).get hi1).one 0 Z)) Z (Qa (Qd Z) Z (Qa (Yu Z Z) Z (Qc (Ys rfl (by subst hq;rw [Uc hm (by omega)];simp [Kr]) (Qo (Qe (Qh [true,true,true] Z Z (Qa (Qd Z) Z (Qa (Ye Z Z (Yg (by unfold maxLen;omega))) Z (Qa (Qf Z) Z (Qc (Qe (Qe (Qh [true,true,true,true,true,true,true,true] Z Z (Qa (Qd Z) Z (Qa (Qd Z) Z (Qa (Qz (i:=i) Kn Z Z (hxs.ext E) hi1) Z (Qa (Qs U6 Z) Z (Qa (Qs V9 Z) Z (Qa (Qk Yt Z (((hxs.ext E).get hi1).one 1 Z)) Z (Qa (Qd Z) Z (Qa (Yu Z Z) Z (Qc (Ys rfl (by subst hq;rw [Uc hm (by omega)];simp [Kr]) (Qo (Qe (Qh [true,true,true] Z Z (Qa (Qd Z) Z (Qa (Ye Z Z (Yg (by unfold maxLen;omega))) Z (Qa (Qf Z) Z (Qc (Qe (Qe (Qh [true,true,true,true,true,true,true,true] Z Z (Qa (Qd Z) Z (Qa (Qd Z) Z (Qa (Qz (i:=i) Kn Z Z (hxs.ext E) hi1) Z (Qa (Qs U6 Z) Z (Qa (Qs Tg Z) Z (Qa (Qk Yt Z (((hxs.ext E).get hi1).one 2 Z)) Z (Qa (Qd Z) Z (Qa (Yu Z Z) Z (Qc (Ys rfl (by subst hq;rw [Uc hm (by omega)];simp [Kr]) (Qo (Qe (Qh [true,true,true] Z Z (Qa (Qd Z) Z (Qa (Ye Z Z (Yg (by unfold maxLen;omega))) Z (Qa (Qf Z) Z (Qc (Qe (Qe (Qh [true,true,true,true,true,true,true] Z Z (Qa (Qd Z) Z (Qa (Qd Z) Z (Qa (Qz (i:=i) Kn Z Z (hxs.ext E) hi1) Z (Qa (Qs Tf Z) Z (Qa (Qk Yt Z (((hxs.ext E).get hi1).one 3 Z)) Z (Qa (Qd Z) Z (Qa (Yu Z Z) Z (Qc (Ys rfl (by subst hq;rw [Uc hm (by omega)];simp [Kr]) (Qo (Qe (Qh [true,true,true] Z Z (Qa (Qd Z) Z (Qa (Ye Z Z (Yg (by unfold maxLen;omega))) Z (Qa (Qf Z) Z (Qc (Qe (Qe (Qh [true,true,true,true,true,true,true] Z Z (Qa (Qd Z) Z (Qa (Qd Z) Z (Qa (Qz (i:=i) Kn Z Z (hxs.ext E) hi1) Z (Qa (Qs C4 Z) Z (Qa (Qk Yt Z (((hxs.ext E).get hi1).one 4 Z)) Z (Qa (Qd Z) Z (Qa (Yu Z Z) Z (Qc (Ys rfl (by subst hq;rw [Uc hm (by omega)];simp [Kr]) (Qo (Qh [true,true,true] Z Z (Qa (Qd Z) Z (Qa (Ye Z Z (Yg (by unfold maxLen;omega))) Z (Qa (Qf Z) Z (Qc (Q6 (Y0 (Qh [true,true,true] Z Z (Qa (Qd Z) Z (Qa (Ye Z Z (Yg (by unfold maxLen;omega))) Z (Qa (Qf Z) Z (Qc (Q6 (Yk (i + 1,q + 1 + 1 + 1 + 1 + 1) (by simp;omega) ⟨Z,Z,Z,Z,trivial⟩ ⟨E,(by omega),(by omega),(by omega)⟩)))))))))))))))))))))))))))))))))))))))))))))))))))))))))))))))))))))))))))))))))))))))))))))))))))
 ·have hc1n : ¬ i < xs.length:=by first | (have h:=of_decide_eq_false hc1;omega) | (have h:=hc1;simp at h;omega)
  refine Yq (Q5 (Q3 ?_))
  refine Qe (Qh [true,true] Z Z (Qa (Qd Z) Z (Qa (Qf Z) Z (Qc (Qv (Qm Z Z E ?_))))))
  subst hq;rw [show i = xs.length from by omega]

set_option maxRecDepth 20000 in
theorem markIntS (vxs : Value) (lo hi : Nat) (xs : List Int) (k : Nat) (w : World) (hxs : Own w lo hi 1 vxs (List.flatMap (Enc.enc (α:=Int)) xs)) (hb : k + xs.length * 1 ≤ 1099511627776) : CtR Tryz.prog 80 [vxs,.int .i64 ((k : Nat) : Int)] w lo hi (fun v w'=>v = .int .i64 ((k + 1 * xs.length : Nat) : Int) ∧ Own w' lo hi 1 vxs (List.flatMap (Enc.enc (α:=Int)) (Vv 1 Ae k xs.length))):=by
 refine V0 Tryz.func80 Z Tryz.ntmps80 Z ?_
 refine Q8 [(0,vxs),(1,.int .i64 ((k : Nat) : Int))] ⟨Z,Z,trivial⟩ ?_
 have E : ModR w w lo hi:=ModR.refl w lo hi
 refine Qe (Qh [true] Z Z (Qa (Qf Z) Z (Qc (Qe (Qe (Qh [true] Z Z (Qa (Qf Z) Z (Qc (Q0 (Yp (fun (xq : Nat × Nat × List Int)=>let ⟨i,q,bs⟩:=xq;[(0,vxs),(1,.int .i64 ((q : Nat) : Int)),(4,.int .i64 0),(5,.int .i64 ((i : Nat) : Int))]) (fun (xq : Nat × Nat × List Int) w'=>let ⟨i,q,bs⟩:=xq;ModR w w' lo hi ∧ w.heap.size ≤ w'.heap.size ∧ i + bs.length = xs.length ∧ q = k + 1 * i ∧ Own w' lo hi 1 vxs (List.flatMap (Enc.enc (α:=Int)) (Vv 1 Ae k i ++ bs))) (fun (xq : Nat × Nat × List Int)=>let ⟨i,q,bs⟩:=xq;xs.length - i) (0,k,xs) ⟨Z,Z,Z,Z,trivial⟩ ⟨E,Nat.le_refl _,(by simp),(by simp),(by simpa [Vv] using hxs)⟩ ?_))))))))))
 clear E hxs
 rintro ⟨i,q,bs⟩ w1 ⟨E,z1,hi,hq,hxs⟩
 refine Q8 [(0,vxs),(1,.int .i64 ((q : Nat) : Int)),(4,.int .i64 0),(5,.int .i64 ((i : Nat) : Int))] ⟨Z,Z,Z,Z,trivial⟩ ?_
 refine Qe (Qe (Qh [true,true,true,true] Z Z (Qa (Qd Z) Z (Qa (Qd Z) Z (Qa (Yc Tryz.underlying76 Z (Own.lenE (by decide) hxs (by simp only [List.length_append,Qi,List.length_cons];omega))) Z (Qa (Yi Z Z) Z (Qc (Qt Z (fun hc1=>?_) (fun hc1=>?_)))))))))
 ·rcases bs with _ | ⟨x,bs⟩
  ·exact absurd hi (by have h:=hc1;simp at h ⊢;omega)
  simp only [List.length_cons] at hi
  have hc1n : i < xs.length:=by first | (have h:=of_decide_eq_true hc1;omega) | (have h:=hc1;simp at h;omega)
  refine Qo (Qe (Q0 (Qe (Qh [true,true,true,true,false] Z Z (Qa (Qd Z) Z (Qa (Qd Z) Z (Qa (Qd Z) Z (Qa (Qz Ux Z Z (Own.rd (by decide) hxs) (by simp only [List.length_append,Qi,List.length_cons];omega)) Z (Xc (α:=Int) (i:=i) (f:=0) ((q : Nat) : Int) Yt Z Z Z Z hxs (Qi _ _ _ _) (by decide) Z (fun w2 m1 hxs'=>?_))))))))))
  have hq:=hxs.blk
  replace hxs:=hxs'
  replace E:=E.mod m1 (fun g hg=>by have:=hq g hg;omega)
  have z2:=m1.size
  clear hq
  refine Qc (Qh [true,true,true] Z Z (Qa (Qd Z) Z (Qa (Ye Z Z (Yg (by unfold maxLen;omega))) Z (Qa (Qf Z) Z (Qc (Q6 (Y0 (Qh [true,true,true] Z Z (Qa (Qd Z) Z (Qa (Ye Z Z (Yg (by unfold maxLen;omega))) Z (Qa (Qf Z) Z (Qc (Q6 (Yk (i + 1,q + 1,bs) (by simp;omega) ⟨rfl,rfl,rfl,rfl,trivial⟩ ⟨E,(by omega),(by omega),(by omega),(by subst hq;rw [← G3];exact hxs)⟩))))))))))))))
 ·have hc1n : ¬ i < xs.length:=by first | (have h:=of_decide_eq_false hc1;omega) | (have h:=hc1;simp at h;omega)
  refine Yq (Q5 (Q3 ?_))
  refine Qe (Qh [true,true] Z Z (Qa (Qd Z) Z (Qa (Qf Z) Z (Qc (Qv (Qm Z Z E ?_))))))
  exact ⟨by subst hq;rw [show i = xs.length from by omega],by obtain rfl : bs = []:=List.eq_nil_of_length_eq_zero (by omega);rw [show xs.length = i from by simp at hi;omega];simpa using hxs⟩

set_option maxRecDepth 20000 in
theorem heldIntS (vxs : Value) (xs : List Int) (k : Nat) (w : World) (hxs : RdS w vxs xs) (hm : xs = Vv 1 Ae k xs.length) (hb : k + xs.length * 1 ≤ 1099511627776) : Ct Tryz.prog 86 [vxs,.int .i64 ((k : Nat) : Int)] w (fun v _=>v = .int .i64 ((k + 1 * xs.length : Nat) : Int)):=by
 refine Ym Tryz.func86 Z Tryz.ntmps86 Z ?_
 refine Q8 [(0,vxs),(1,.int .i64 ((k : Nat) : Int))] ⟨Z,Z,trivial⟩ ?_
 have E : Ext w w:=Ext.refl w
 refine Qe (Qh [true] Z Z (Qa (Qf Z) Z (Qc (Qe (Qe (Qh [true] Z Z (Qa (Qf Z) Z (Qc (Q0 (Yp (fun (xq : Nat × Nat)=>let ⟨i,q⟩:=xq;[(0,vxs),(1,.int .i64 ((q : Nat) : Int)),(4,.int .i64 0),(5,.int .i64 ((i : Nat) : Int))]) (fun (xq : Nat × Nat) w'=>let ⟨i,q⟩:=xq;Ext w w' ∧ w.heap.size ≤ w'.heap.size ∧ i ≤ xs.length ∧ q = k + 1 * i) (fun (xq : Nat × Nat)=>let ⟨i,q⟩:=xq;xs.length - i) (0,k) ⟨Z,Z,Z,Z,trivial⟩ ⟨E,Nat.le_refl _,Nat.zero_le _,(by simp)⟩ ?_))))))))))
 clear E
 rintro ⟨i,q⟩ w1 ⟨E,z1,hi,hq⟩
 refine Q8 [(0,vxs),(1,.int .i64 ((q : Nat) : Int)),(4,.int .i64 0),(5,.int .i64 ((i : Nat) : Int))] ⟨Z,Z,Z,Z,trivial⟩ ?_
 refine Qe (Qe (Qh [true,true,true,true] Z Z (Qa (Qd Z) Z (Qa (Qd Z) Z (Qa (Yc Tryz.underlying76 Z (hxs.ext E).len) Z (Qa (Yi Z Z) Z (Qc (Qt Z (fun hc1=>?_) (fun hc1=>?_)))))))))
 ·have hc1n : i < xs.length:=by first | (have h:=of_decide_eq_true hc1;omega) | (have h:=hc1;simp at h;omega)
  refine Qo (Qe (Q0 (Qe (Qe (Qh [true,true,true,true,true,true] Z Z (Qa (Qd Z) Z (Qa (Qd Z) Z ?_)))))))
  have hi1 : i < xs.length:=(by first | assumption | omega | (simp only [List.length_set];first | assumption | omega) | (simp only [List.getElem_set_self,List.length_set];first | assumption | omega) | (simp only [Yn,Yh,List.length_set];first | assumption | omega))
  refine Qa (Qz (i:=i) Ux Z Z (hxs.ext E) hi1) Z (Qa (Qk Yt Z (((hxs.ext E).get hi1).one 0 Z)) Z (Qa (Qd Z) Z (Qa (Yu Z Z) Z (Qc (Ys rfl (by subst hq;rw [Uc hm (by omega)];simp [Ae]) (Qo (Qh [true,true,true] Z Z (Qa (Qd Z) Z (Qa (Ye Z Z (Yg (by unfold maxLen;omega))) Z (Qa (Qf Z) Z (Qc (Q6 (Y0 (Qh [true,true,true] Z Z (Qa (Qd Z) Z (Qa (Ye Z Z (Yg (by unfold maxLen;omega))) Z (Qa (Qf Z) Z (Qc (Q6 (Yk (i + 1,q + 1) (by simp;omega) ⟨Z,Z,Z,Z,trivial⟩ ⟨E,(by omega),(by omega),(by omega)⟩))))))))))))))))))))
 ·have hc1n : ¬ i < xs.length:=by first | (have h:=of_decide_eq_false hc1;omega) | (have h:=hc1;simp at h;omega)
  refine Yq (Q5 (Q3 ?_))
  refine Qe (Qh [true,true] Z Z (Qa (Qd Z) Z (Qa (Qf Z) Z (Qc (Qv (Qm Z Z E ?_))))))
  subst hq;rw [show i = xs.length from by omega]

set_option maxRecDepth 20000 in
theorem markBoolS (vxs : Value) (lo hi : Nat) (xs : List Bool) (k : Nat) (w : World) (hxs : Own w lo hi 1 vxs (List.flatMap (Enc.enc (α:=Bool)) xs)) (hb : k + xs.length * 1 ≤ 1099511627776) : CtR Tryz.prog 81 [vxs,.int .i64 ((k : Nat) : Int)] w lo hi (fun v w'=>v = .int .i64 ((k + 1 * xs.length : Nat) : Int) ∧ Own w' lo hi 1 vxs (List.flatMap (Enc.enc (α:=Bool)) (Vv 1 T3 k xs.length))):=by
 refine V0 Tryz.func81 Z Tryz.ntmps81 Z ?_
 refine Q8 [(0,vxs),(1,.int .i64 ((k : Nat) : Int))] ⟨Z,Z,trivial⟩ ?_
 have E : ModR w w lo hi:=ModR.refl w lo hi
 refine Qe (Qh [true] Z Z (Qa (Qf Z) Z (Qc (Qe (Qe (Qh [true] Z Z (Qa (Qf Z) Z (Qc (Q0 (Yp (fun (xq : Nat × Nat × List Bool)=>let ⟨i,q,bs⟩:=xq;[(0,vxs),(1,.int .i64 ((q : Nat) : Int)),(4,.int .i64 0),(5,.int .i64 ((i : Nat) : Int))]) (fun (xq : Nat × Nat × List Bool) w'=>let ⟨i,q,bs⟩:=xq;ModR w w' lo hi ∧ w.heap.size ≤ w'.heap.size ∧ i + bs.length = xs.length ∧ q = k + 1 * i ∧ Own w' lo hi 1 vxs (List.flatMap (Enc.enc (α:=Bool)) (Vv 1 T3 k i ++ bs))) (fun (xq : Nat × Nat × List Bool)=>let ⟨i,q,bs⟩:=xq;xs.length - i) (0,k,xs) ⟨Z,Z,Z,Z,trivial⟩ ⟨E,Nat.le_refl _,(by simp),(by simp),(by simpa [Vv] using hxs)⟩ ?_))))))))))
 clear E hxs
 rintro ⟨i,q,bs⟩ w1 ⟨E,z1,hi,hq,hxs⟩
 refine Q8 [(0,vxs),(1,.int .i64 ((q : Nat) : Int)),(4,.int .i64 0),(5,.int .i64 ((i : Nat) : Int))] ⟨Z,Z,Z,Z,trivial⟩ ?_
 refine Qe (Qe (Qh [true,true,true,true] Z Z (Qa (Qd Z) Z (Qa (Qd Z) Z (Qa (Yc Tryz.underlying77 Z (Own.lenE (by decide) hxs (by simp only [List.length_append,Qi,List.length_cons];omega))) Z (Qa (Yi Z Z) Z (Qc (Qt Z (fun hc1=>?_) (fun hc1=>?_)))))))))
 ·rcases bs with _ | ⟨x,bs⟩
  ·exact absurd hi (by have h:=hc1;simp at h ⊢;omega)
  simp only [List.length_cons] at hi
  have hc1n : i < xs.length:=by first | (have h:=of_decide_eq_true hc1;omega) | (have h:=hc1;simp at h;omega)
  refine Qo (Qe (Q0 (Qe (Qh [true,true,true,true,true,true,false] Z Z (Qa (Qd Z) Z (Qa (Qd Z) Z (Qa (Qd Z) Z (Qa (Gm Z Z (by decide) Z) Z (Qa (Xm Z Z) Z (Qa (Qz Ap Z Z (Own.rd (by decide) hxs) (by simp only [List.length_append,Qi,List.length_cons];omega)) Z (Xc (α:=Bool) (i:=i) (f:=0) ((Int.tmod ((q : Nat) : Int) 3) == 0) Hs Z Z Z Z hxs (Qi _ _ _ _) (by decide) Z (fun w2 m1 hxs'=>?_))))))))))))
  have hq:=hxs.blk
  replace hxs:=hxs'
  replace E:=E.mod m1 (fun g hg=>by have:=hq g hg;omega)
  have z2:=m1.size
  clear hq
  refine Qc (Qh [true,true,true] Z Z (Qa (Qd Z) Z (Qa (Ye Z Z (Yg (by unfold maxLen;omega))) Z (Qa (Qf Z) Z (Qc (Q6 (Y0 (Qh [true,true,true] Z Z (Qa (Qd Z) Z (Qa (Ye Z Z (Yg (by unfold maxLen;omega))) Z (Qa (Qf Z) Z (Qc (Q6 (Yk (i + 1,q + 1,bs) (by simp;omega) ⟨rfl,rfl,rfl,rfl,trivial⟩ ⟨E,(by omega),(by omega),(by omega),(by subst hq;rw [← G3];exact hxs)⟩))))))))))))))
 ·have hc1n : ¬ i < xs.length:=by first | (have h:=of_decide_eq_false hc1;omega) | (have h:=hc1;simp at h;omega)
  refine Yq (Q5 (Q3 ?_))
  refine Qe (Qh [true,true] Z Z (Qa (Qd Z) Z (Qa (Qf Z) Z (Qc (Qv (Qm Z Z E ?_))))))
  exact ⟨by subst hq;rw [show i = xs.length from by omega],by obtain rfl : bs = []:=List.eq_nil_of_length_eq_zero (by omega);rw [show xs.length = i from by simp at hi;omega];simpa using hxs⟩

set_option maxRecDepth 20000 in
theorem heldBoolS (vxs : Value) (xs : List Bool) (k : Nat) (w : World) (hxs : RdS w vxs xs) (hm : xs = Vv 1 T3 k xs.length) (hb : k + xs.length * 1 ≤ 1099511627776) : Ct Tryz.prog 87 [vxs,.int .i64 ((k : Nat) : Int)] w (fun v _=>v = .int .i64 ((k + 1 * xs.length : Nat) : Int)):=by
 refine Ym Tryz.func87 Z Tryz.ntmps87 Z ?_
 refine Q8 [(0,vxs),(1,.int .i64 ((k : Nat) : Int))] ⟨Z,Z,trivial⟩ ?_
 have E : Ext w w:=Ext.refl w
 refine Qe (Qh [true] Z Z (Qa (Qf Z) Z (Qc (Qe (Qe (Qh [true] Z Z (Qa (Qf Z) Z (Qc (Q0 (Yp (fun (xq : Nat × Nat)=>let ⟨i,q⟩:=xq;[(0,vxs),(1,.int .i64 ((q : Nat) : Int)),(4,.int .i64 0),(5,.int .i64 ((i : Nat) : Int))]) (fun (xq : Nat × Nat) w'=>let ⟨i,q⟩:=xq;Ext w w' ∧ w.heap.size ≤ w'.heap.size ∧ i ≤ xs.length ∧ q = k + 1 * i) (fun (xq : Nat × Nat)=>let ⟨i,q⟩:=xq;xs.length - i) (0,k) ⟨Z,Z,Z,Z,trivial⟩ ⟨E,Nat.le_refl _,Nat.zero_le _,(by simp)⟩ ?_))))))))))
 clear E
 rintro ⟨i,q⟩ w1 ⟨E,z1,hi,hq⟩
 refine Q8 [(0,vxs),(1,.int .i64 ((q : Nat) : Int)),(4,.int .i64 0),(5,.int .i64 ((i : Nat) : Int))] ⟨Z,Z,Z,Z,trivial⟩ ?_
 refine Qe (Qe (Qh [true,true,true,true] Z Z (Qa (Qd Z) Z (Qa (Qd Z) Z (Qa (Yc Tryz.underlying77 Z (hxs.ext E).len) Z (Qa (Yi Z Z) Z (Qc (Qt Z (fun hc1=>?_) (fun hc1=>?_)))))))))
 ·have hc1n : i < xs.length:=by first | (have h:=of_decide_eq_true hc1;omega) | (have h:=hc1;simp at h;omega)
  refine Qo (Qe (Q0 (Qe (Qe (Qh [true,true,true,true,true,true,true,true] Z Z (Qa (Qd Z) Z (Qa (Qd Z) Z ?_)))))))
  have hi1 : i < xs.length:=(by first | assumption | omega | (simp only [List.length_set];first | assumption | omega) | (simp only [List.getElem_set_self,List.length_set];first | assumption | omega) | (simp only [Yn,Yh,List.length_set];first | assumption | omega))
  refine Qa (Qz (i:=i) Ap Z Z (hxs.ext E) hi1) Z (Qa (Qk Hs Z (((hxs.ext E).get hi1).one 0 Z)) Z (Qa (Qd Z) Z (Qa (Gm Z Z (by decide) Z) Z (Qa (Xm Z Z) Z (Qa (U8 (Tryz.underlying4) Z Z) Z (Qc (Ys rfl (by subst hq;rw [Uc hm (by omega)];simp [T3]) (Qo (Qh [true,true,true] Z Z (Qa (Qd Z) Z (Qa (Ye Z Z (Yg (by unfold maxLen;omega))) Z (Qa (Qf Z) Z (Qc (Q6 (Y0 (Qh [true,true,true] Z Z (Qa (Qd Z) Z (Qa (Ye Z Z (Yg (by unfold maxLen;omega))) Z (Qa (Qf Z) Z (Qc (Q6 (Yk (i + 1,q + 1) (by simp;omega) ⟨Z,Z,Z,Z,trivial⟩ ⟨E,(by omega),(by omega),(by omega)⟩))))))))))))))))))))))
 ·have hc1n : ¬ i < xs.length:=by first | (have h:=of_decide_eq_false hc1;omega) | (have h:=hc1;simp at h;omega)
  refine Yq (Q5 (Q3 ?_))
  refine Qe (Qh [true,true] Z Z (Qa (Qd Z) Z (Qa (Qf Z) Z (Qc (Qv (Qm Z Z E ?_))))))
  subst hq;rw [show i = xs.length from by omega]

set_option maxRecDepth 20000 in
theorem markDoneS (vxs : Value) (lo hi : Nat) (xs : List Done) (k : Nat) (w : World) (hxs : Own w lo hi 2 vxs (List.flatMap (Enc.enc (α:=Done)) xs)) (hb : k + xs.length * 2 ≤ 1099511627776) : CtR Tryz.prog 82 [vxs,.int .i64 ((k : Nat) : Int)] w lo hi (fun v w'=>v = .int .i64 ((k + 2 * xs.length : Nat) : Int) ∧ Own w' lo hi 2 vxs (List.flatMap (Enc.enc (α:=Done)) (Vv 2 C3 k xs.length))):=by
 refine V0 Tryz.func82 Z Tryz.ntmps82 Z ?_
 refine Q8 [(0,vxs),(1,.int .i64 ((k : Nat) : Int))] ⟨Z,Z,trivial⟩ ?_
 have E : ModR w w lo hi:=ModR.refl w lo hi
 refine Qe (Qh [true] Z Z (Qa (Qf Z) Z (Qc (Qe (Qe (Qh [true] Z Z (Qa (Qf Z) Z (Qc (Q0 (Yp (fun (xq : Nat × Nat × List Done)=>let ⟨i,q,bs⟩:=xq;[(0,vxs),(1,.int .i64 ((q : Nat) : Int)),(4,.int .i64 0),(5,.int .i64 ((i : Nat) : Int))]) (fun (xq : Nat × Nat × List Done) w'=>let ⟨i,q,bs⟩:=xq;ModR w w' lo hi ∧ w.heap.size ≤ w'.heap.size ∧ i + bs.length = xs.length ∧ q = k + 2 * i ∧ Own w' lo hi 2 vxs (List.flatMap (Enc.enc (α:=Done)) (Vv 2 C3 k i ++ bs))) (fun (xq : Nat × Nat × List Done)=>let ⟨i,q,bs⟩:=xq;xs.length - i) (0,k,xs) ⟨Z,Z,Z,Z,trivial⟩ ⟨E,Nat.le_refl _,(by simp),(by simp),(by simpa [Vv] using hxs)⟩ ?_))))))))))
 clear E hxs
 rintro ⟨i,q,bs⟩ w1 ⟨E,z1,hi,hq,hxs⟩
 refine Q8 [(0,vxs),(1,.int .i64 ((q : Nat) : Int)),(4,.int .i64 0),(5,.int .i64 ((i : Nat) : Int))] ⟨Z,Z,Z,Z,trivial⟩ ?_
 refine Qe (Qe (Qh [true,true,true,true] Z Z (Qa (Qd Z) Z (Qa (Qd Z) Z (Qa (Yc Tryz.underlying78 Z (Own.lenE (by decide) hxs (by simp only [List.length_append,Qi,List.length_cons];omega))) Z (Qa (Yi Z Z) Z (Qc (Qt Z (fun hc1=>?_) (fun hc1=>?_)))))))))
 ·rcases bs with _ | ⟨x,bs⟩
  ·exact absurd hi (by have h:=hc1;simp at h ⊢;omega)
  simp only [List.length_cons] at hi
  have hc1n : i < xs.length:=by first | (have h:=of_decide_eq_true hc1;omega) | (have h:=hc1;simp at h;omega)
  refine Qo (Qe (Q0 (Qe (Qh [true,true,true,true,true,false] Z Z (Qa (Qd Z) Z (Qa (Qd Z) Z (Qa (Qd Z) Z (Qa (Qz T1 Z Z (Own.rd (by decide) hxs) (by simp only [List.length_append,Qi,List.length_cons];omega)) Z (Qa (Qs Vy Z) Z (Xc (α:=Done) (i:=i) (f:=0) (⟨((q : Nat) : Int),x.capped⟩ : Done) Yt Z Z Z Z hxs (Qi _ _ _ _) (by decide) Z (fun w2 m1 hxs'=>?_)))))))))))
  have hq:=hxs.blk
  replace hxs:=hxs'
  replace E:=E.mod m1 (fun g hg=>by have:=hq g hg;omega)
  have z2:=m1.size
  clear hq
  refine Qc (Qe (Qh [true,true,true] Z Z (Qa (Qd Z) Z (Qa (Ye Z Z (Yg (by unfold maxLen;omega))) Z (Qa (Qf Z) Z (Qc (Qe (Qh [true,true,true,true,true,true,true,false] Z Z (Qa (Qd Z) Z (Qa (Qd Z) Z (Qa (Qd Z) Z (Qa (Gm Z Z (by decide) Z) Z (Qa (Xm Z Z) Z (Qa (Qz T1 Z Z (Own.rd (by decide) hxs) (by simp only [List.length_append,Qi,List.length_cons];omega)) Z (Qa (Qs Ah Z) Z (Xc (α:=Done) (i:=i) (f:=1) (⟨((q : Nat) : Int),(Int.tmod ((q + 1 : Nat) : Int) 3) == 0⟩ : Done) Hs Z Z Z Z hxs (Qi _ _ _ _) (by decide) Z (fun w3 m2 hxs'=>?_)))))))))))))))))
  have hq:=hxs.blk
  replace hxs:=hxs'
  replace E:=E.mod m2 (fun g hg=>by have:=hq g hg;omega)
  have z3:=m2.size
  clear hq
  refine Qc (Qh [true,true,true] Z Z (Qa (Qd Z) Z (Qa (Ye Z Z (Yg (by unfold maxLen;omega))) Z (Qa (Qf Z) Z (Qc (Q6 (Y0 (Qh [true,true,true] Z Z (Qa (Qd Z) Z (Qa (Ye Z Z (Yg (by unfold maxLen;omega))) Z (Qa (Qf Z) Z (Qc (Q6 (Yk (i + 1,q + 1 + 1,bs) (by simp;omega) ⟨rfl,rfl,rfl,rfl,trivial⟩ ⟨E,(by omega),(by omega),(by omega),(by subst hq;rw [← G3];exact hxs)⟩))))))))))))))
 ·have hc1n : ¬ i < xs.length:=by first | (have h:=of_decide_eq_false hc1;omega) | (have h:=hc1;simp at h;omega)
  refine Yq (Q5 (Q3 ?_))
  refine Qe (Qh [true,true] Z Z (Qa (Qd Z) Z (Qa (Qf Z) Z (Qc (Qv (Qm Z Z E ?_))))))
  exact ⟨by subst hq;rw [show i = xs.length from by omega],by obtain rfl : bs = []:=List.eq_nil_of_length_eq_zero (by omega);rw [show xs.length = i from by simp at hi;omega];simpa using hxs⟩

set_option maxRecDepth 20000 in
theorem heldDoneS (vxs : Value) (xs : List Done) (k : Nat) (w : World) (hxs : RdS w vxs xs) (hm : xs = Vv 2 C3 k xs.length) (hb : k + xs.length * 2 ≤ 1099511627776) : Ct Tryz.prog 88 [vxs,.int .i64 ((k : Nat) : Int)] w (fun v _=>v = .int .i64 ((k + 2 * xs.length : Nat) : Int)):=by
 refine Ym Tryz.func88 Z Tryz.ntmps88 Z ?_
 refine Q8 [(0,vxs),(1,.int .i64 ((k : Nat) : Int))] ⟨Z,Z,trivial⟩ ?_
 have E : Ext w w:=Ext.refl w
 refine Qe (Qh [true] Z Z (Qa (Qf Z) Z (Qc (Qe (Qe (Qh [true] Z Z (Qa (Qf Z) Z (Qc (Q0 (Yp (fun (xq : Nat × Nat)=>let ⟨i,q⟩:=xq;[(0,vxs),(1,.int .i64 ((q : Nat) : Int)),(4,.int .i64 0),(5,.int .i64 ((i : Nat) : Int))]) (fun (xq : Nat × Nat) w'=>let ⟨i,q⟩:=xq;Ext w w' ∧ w.heap.size ≤ w'.heap.size ∧ i ≤ xs.length ∧ q = k + 2 * i) (fun (xq : Nat × Nat)=>let ⟨i,q⟩:=xq;xs.length - i) (0,k) ⟨Z,Z,Z,Z,trivial⟩ ⟨E,Nat.le_refl _,Nat.zero_le _,(by simp)⟩ ?_))))))))))
 clear E
 rintro ⟨i,q⟩ w1 ⟨E,z1,hi,hq⟩
 refine Q8 [(0,vxs),(1,.int .i64 ((q : Nat) : Int)),(4,.int .i64 0),(5,.int .i64 ((i : Nat) : Int))] ⟨Z,Z,Z,Z,trivial⟩ ?_
 refine Qe (Qe (Qh [true,true,true,true] Z Z (Qa (Qd Z) Z (Qa (Qd Z) Z (Qa (Yc Tryz.underlying78 Z (hxs.ext E).len) Z (Qa (Yi Z Z) Z (Qc (Qt Z (fun hc1=>?_) (fun hc1=>?_)))))))))
 ·have hc1n : i < xs.length:=by first | (have h:=of_decide_eq_true hc1;omega) | (have h:=hc1;simp at h;omega)
  refine Qo (Qe (Q0 (Qe (Qe (Qh [true,true,true,true,true,true,true] Z Z (Qa (Qd Z) Z (Qa (Qd Z) Z ?_)))))))
  have hi1 : i < xs.length:=(by first | assumption | omega | (simp only [List.length_set];first | assumption | omega) | (simp only [List.getElem_set_self,List.length_set];first | assumption | omega) | (simp only [Yn,Yh,List.length_set];first | assumption | omega))
  refine Qa (Qz (i:=i) T1 Z Z (hxs.ext E) hi1) Z (Qa (Qs Vy Z) Z (Qa (Qk Yt Z (((hxs.ext E).get hi1).one 0 Z)) Z (Qa (Qd Z) Z (Qa (Yu Z Z) Z (Qc (Ys rfl (by subst hq;rw [Uc hm (by omega)];simp [C3]) (Qo (Qe (Qh [true,true,true] Z Z (Qa (Qd Z) Z (Qa (Ye Z Z (Yg (by unfold maxLen;omega))) Z (Qa (Qf Z) Z (Qc (Qe (Qe (Qh [true,true,true,true,true,true,true,true,true] Z Z (Qa (Qd Z) Z (Qa (Qd Z) Z (Qa (Qz (i:=i) T1 Z Z (hxs.ext E) hi1) Z (Qa (Qs Ah Z) Z (Qa (Qk Hs Z (((hxs.ext E).get hi1).one 1 Z)) Z (Qa (Qd Z) Z (Qa (Gm Z Z (by decide) Z) Z (Qa (Xm Z Z) Z (Qa (U8 (Tryz.underlying4) Z Z) Z (Qc (Ys rfl (by subst hq;rw [Uc hm (by omega)];simp [C3]) (Qo (Qh [true,true,true] Z Z (Qa (Qd Z) Z (Qa (Ye Z Z (Yg (by unfold maxLen;omega))) Z (Qa (Qf Z) Z (Qc (Q6 (Y0 (Qh [true,true,true] Z Z (Qa (Qd Z) Z (Qa (Ye Z Z (Yg (by unfold maxLen;omega))) Z (Qa (Qf Z) Z (Qc (Q6 (Yk (i + 1,q + 1 + 1) (by simp;omega) ⟨Z,Z,Z,Z,trivial⟩ ⟨E,(by omega),(by omega),(by omega)⟩))))))))))))))))))))))))))))))))))))))))))
 ·have hc1n : ¬ i < xs.length:=by first | (have h:=of_decide_eq_false hc1;omega) | (have h:=hc1;simp at h;omega)
  refine Yq (Q5 (Q3 ?_))
  refine Qe (Qh [true,true] Z Z (Qa (Qd Z) Z (Qa (Qf Z) Z (Qc (Qv (Qm Z Z E ?_))))))
  subst hq;rw [show i = xs.length from by omega]

set_option maxRecDepth 20000 in
theorem c_copyRecords (vxs : Value) (xs : List Record) (w : World) (hxs : RdS w vxs xs) (hb : xs.length ≤ 4194304) : Ct Tryz.prog 114 [vxs] w (fun v w'=>Own w' w.heap.size w'.heap.size 5 v (List.flatMap (Enc.enc (α:=Record)) xs)):=by
 refine Ym Tryz.func114 Z Tryz.ntmps114 Z ?_
 refine Q8 [(0,vxs)] ⟨Z,trivial⟩ ?_
 have E : Ext w w:=Ext.refl w
 refine Qe (Qh [true] Z Z (Qa (Qf Z) Z (Qc (Qe (Qh [true,false,true] Z Z (Qa (Qd Z) Z (Cc Kn Z Z (Own.nil w w.heap.size w.heap.size 5) (RdS.src (hxs.ext E)) (Xp _) (by simp only [Yz,List.length_nil];simp only [Enc.sz];omega) (by decide) (by omega) (by omega) Z Z (fun v1 w1 m1 ho1=>?_))))))))
 replace E:=E.step m1 (fun g hg=>by have:=Own.blk (Own.nil w w.heap.size w.heap.size 5) g hg;omega)
 have z1:=m1.size
 refine Qa (Qf Z) Z (Qc (Qv (Qm Z Z E ?_)))
 exact Own.fin ho1 (by have:=E.size;omega) (by omega) (by simp [*])

set_option maxRecDepth 20000 in
theorem c_copyCells (vxs : Value) (xs : List Cell) (w : World) (hxs : RdS w vxs xs) (hb : xs.length ≤ 4194304) : Ct Tryz.prog 115 [vxs] w (fun v w'=>Own w' w.heap.size w'.heap.size 4 v (List.flatMap (Enc.enc (α:=Cell)) xs)):=by
 refine Ym Tryz.func115 Z Tryz.ntmps115 Z ?_
 refine Q8 [(0,vxs)] ⟨Z,trivial⟩ ?_
 have E : Ext w w:=Ext.refl w
 refine Qe (Qh [true] Z Z (Qa (Qf Z) Z (Qc (Qe (Qh [true,false,true] Z Z (Qa (Qd Z) Z (Cc H2 Z Z (Own.nil w w.heap.size w.heap.size 4) (RdS.src (hxs.ext E)) (Xp _) (by simp only [Yz,List.length_nil];simp only [Enc.sz];omega) (by decide) (by omega) (by omega) Z Z (fun v1 w1 m1 ho1=>?_))))))))
 replace E:=E.step m1 (fun g hg=>by have:=Own.blk (Own.nil w w.heap.size w.heap.size 4) g hg;omega)
 have z1:=m1.size
 refine Qa (Qf Z) Z (Qc (Qv (Qm Z Z E ?_)))
 exact Own.fin ho1 (by have:=E.size;omega) (by omega) (by simp [*])

end Go.Proofs.YtjpoipdddpmeiaaGreat
