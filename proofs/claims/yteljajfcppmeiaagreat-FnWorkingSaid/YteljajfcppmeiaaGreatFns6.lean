/- What the functions that the laws call come to: a contract each; no condition. -/
import Derived.Test.YteljajfcppmeiaaGreatFns5
namespace Go.Proofs.YteljajfcppmeiaaGreat
open Go Go.Proofs.YteljajfcppmeiaaGreat.X Go.Proofs
set_option maxHeartbeats 4000000 in
set_option maxRecDepth 20000 in
theorem l_FnWorking (vcode : Value) (code : List Byt) (w : World) (hcode : RdS w vcode code) (kcode : ∀ y ∈ code,True) : Ct Tryz.prog 3 [vcode] w (fun v _=>v = .bool true):=by
 refine Yx Tryz.func3 Z Tryz.ntmps3 Z ?_
 refine Yh [(0,vcode)] ⟨Z,trivial⟩ ?_
 have E : Ext w w:=Ext.refl w
 refine Qh (Qi [true] Z Z (Qa (Qg Z) Z (Qf (Qh (Qh (Qi [true,false] Z Z (Qa (Qe Z) Z (Qv Tryz.call4 Z (l_big vcode code _ (hcode.ext E)) Z (fun _ w1 e1 hv=>?_)))))))))
 subst hv
 replace E:=E.trans e1
 have z1:=e1.size
 refine Qf (Qw Z (fun hc1=>?_) (fun hc1=>?_))
 ·refine Qh (Qi [true] Z Z (Qa (Qg Z) Z (Qf (Qx (Q0 Z Z E ?_)))))
  rfl
 ·refine Qy (Qh (Qi [true,false,true,true,true,false,false,false,false] Z Z (Qa (Qe Z) Z (Qv Tryz.call5 Z (s_DrawWorkOn vcode code _ (hcode.ext E)) Z (fun _ w2 e2 ho1=>?_)))))
  obtain ⟨dx1,dx2,q1,q2,ho1⟩:=ho1
  obtain ⟨_,_,rfl,ho2,ho3⟩:=ho1
  have g_ho1 : w.heap.size ≤ w1.heap.size:=E.size
  replace E:=E.trans e2
  have z2:=e2.size
  have hD1:=ho2
  obtain ⟨o1,rfl,_⟩:=Graph.op hD1
  clear ho2
  have hD2:=ho3
  obtain ⟨o2,o3,o4,o5,o6,o7,o8,o9,rfl,_,_,_,_,_,_,_,_⟩:=Worker.op hD2
  clear ho3
  refine Qa (Qe Z) Z (Qa (Q5 Z Z) Z (Qa (Q5 Z Z) Z (Q6 Xt Z (fun b1 w3 e3 s1 h1=>?_))))
  have g_b1 : w.heap.size ≤ b1:=by have:=E.size;omega
  have y_b1:=h1.lt
  replace E:=E.trans e3;replace hD1:=hD1.ext e3;replace hD2:=hD2.ext e3
  have z3:=e3.size
  refine Q6 Q7 Z (fun b2 w4 e4 s2 h2=>?_)
  have g_b2 : w.heap.size ≤ b2:=by have:=E.size;omega
  have y_b2:=h2.lt
  replace E:=E.trans e4;replace hD1:=hD1.ext e4;replace hD2:=hD2.ext e4;replace h1:=h1.ext e4
  have z4:=e4.size
  refine Qs (cs':=[o1,.int .i64 dx1.workers,.int .i64 dx1.cap]) Xt Z Z Z (Qb (RdD.one (Graph.opD hD1)) (Qb Z (Qb Z Z))) h1 (Nat.le_of_ble_eq_true Z) Z (fun w5 m1 h1'=>?_)
  replace h1:=h1'
  replace E:=E.step m1 (fun g hg=>by cases hg;omega);replace hD1:=hD1.mod m1 (fun g hg=>by cases hg;omega);replace hD2:=hD2.mod m1 (fun g hg=>by cases hg;omega);replace h2:=h2.mod m1 (fun g hg=>by cases hg;omega)
  have z5:=m1.size
  refine Qs (cs':=[o2,o3,o4,o5,o6,o7,o8,o9]) Q7 Z Z Z (Qb (RdD.one (Worker.opD hD2).1) (Qb (RdD.one (Worker.opD hD2).2.1) (Qb (RdD.one (Worker.opD hD2).2.2.1) (Qb (RdD.one (Worker.opD hD2).2.2.2.1) (Qb (RdD.one (Worker.opD hD2).2.2.2.2.1) (Qb (RdD.one (Worker.opD hD2).2.2.2.2.2.1) (Qb (RdD.one (Worker.opD hD2).2.2.2.2.2.2.1) (Qb (RdD.one (Worker.opD hD2).2.2.2.2.2.2.2) Z)))))))) h2 (Nat.le_of_ble_eq_true Z) Z (fun w6 m2 h2'=>?_)
  replace h2:=h2'
  replace E:=E.step m2 (fun g hg=>by cases hg;omega);replace hD1:=hD1.mod m2 (fun g hg=>by cases hg;omega);replace hD2:=hD2.mod m2 (fun g hg=>by cases hg;omega);replace h1:=h1.mod m2 (fun g hg=>by cases hg;omega)
  have z6:=m2.size
  refine Qf (Qh (Qi [true,true,false,true,true,true,false,false,true] Z Z (Qa (Qo Xt Z h1.at Z) Z (Qa (Qo Q7 Z h2.at Z) Z (Qv Tryz.call6 Z (c_WorkOn [o1,.int .i64 dx1.workers,.int .i64 dx1.cap] dx1 [o2,o3,o4,o5,o6,o7,o8,o9] dx2 _ (Dat.R.any hD1) (Dat.R.any hD2) (by first | omega | (simp;done))) Z (fun _ w7 e5 ho4=>?_))))))
  obtain ⟨_,rfl,ho5⟩:=ho4
  have g_ho4 : w.heap.size ≤ w6.heap.size:=E.size
  replace E:=E.trans e5;replace hD1:=hD1.ext e5;replace hD2:=hD2.ext e5;replace h1:=h1.ext e5;replace h2:=h2.ext e5
  have z7:=e5.size
  have hD3:=Own1.rd ho5
  obtain ⟨o10,o11,o12,o13,o14,o15,o16,o17,rfl,_,_,_,_,_,_,_,_⟩:=Worker.op hD3
  clear ho5
  refine Qa (Qe Z) Z (Qa (Q5 Z Z) Z (Qa (Q5 Z Z) Z (Q6 Q7 Z (fun b3 w8 e6 s3 h3=>?_))))
  have g_b3 : w.heap.size ≤ b3:=by have:=E.size;omega
  have y_b3:=h3.lt
  replace E:=E.trans e6;replace hD1:=hD1.ext e6;replace hD2:=hD2.ext e6;replace h1:=h1.ext e6;replace h2:=h2.ext e6;replace hD3:=hD3.ext e6
  have z8:=e6.size
  refine Qs (cs':=[o10,o11,o12,o13,o14,o15,o16,o17]) Q7 Z Z Z (Qb (RdD.one (Worker.opD hD3).1) (Qb (RdD.one (Worker.opD hD3).2.1) (Qb (RdD.one (Worker.opD hD3).2.2.1) (Qb (RdD.one (Worker.opD hD3).2.2.2.1) (Qb (RdD.one (Worker.opD hD3).2.2.2.2.1) (Qb (RdD.one (Worker.opD hD3).2.2.2.2.2.1) (Qb (RdD.one (Worker.opD hD3).2.2.2.2.2.2.1) (Qb (RdD.one (Worker.opD hD3).2.2.2.2.2.2.2) Z)))))))) h3 (Nat.le_of_ble_eq_true Z) Z (fun w9 m3 h3'=>?_)
  replace h3:=h3'
  replace E:=E.step m3 (fun g hg=>by cases hg;omega);replace hD1:=hD1.mod m3 (fun g hg=>by cases hg;omega);replace hD2:=hD2.mod m3 (fun g hg=>by cases hg;omega);replace h1:=h1.mod m3 (fun g hg=>by cases hg;omega);replace h2:=h2.mod m3 (fun g hg=>by cases hg;omega);replace hD3:=hD3.mod m3 (fun g hg=>by cases hg;omega)
  have z9:=m3.size
  refine Qa (Qg Z) Z (Qf (Qh (Yh [(0,vcode),(2,.bool false),(3,.pointer (some ⟨b1,0,none⟩)),(4,.pointer (some ⟨b2,0,none⟩)),(5,.pointer (some ⟨b3,0,none⟩)),(6,.bool ((Q2 dx1 dx2).2))] ⟨Z,Z,Z,Z,Z,Z,trivial⟩ (Qi [true,true,false,true,true,true,false,false,true] Z Z (Qa (Qo Xt Z h1.at Z) Z (Qa (Qo Q7 Z h2.at Z) Z (Qv Tryz.call7 Z (s_WorkOn [o1,.int .i64 dx1.workers,.int .i64 dx1.cap] dx1 [o2,o3,o4,o5,o6,o7,o8,o9] dx2 _ (Dat.R.any hD1) (Dat.R.any hD2) (by first | omega | (simp;done)) (smG_cnt (by assumption))) Z (fun _ w10 e7 ho6=>?_))))))))
  obtain ⟨_,rfl,ho7⟩:=ho6
  have g_ho6 : w.heap.size ≤ w9.heap.size:=E.size
  replace E:=E.trans e7;replace hD1:=hD1.ext e7;replace hD2:=hD2.ext e7;replace h1:=h1.ext e7;replace h2:=h2.ext e7;replace hD3:=hD3.ext e7;replace h3:=h3.ext e7
  have z10:=e7.size
  have hD4:=Own1.rd ho7
  obtain ⟨o18,o19,o20,o21,o22,o23,o24,o25,rfl,_,_,_,_,_,_,_,_⟩:=Worker.op hD4
  clear ho7
  refine Qa (Qe Z) Z (Qa (Q5 Z Z) Z (Qa (Q5 Z Z) Z (Q6 Q7 Z (fun b4 w11 e8 s4 h4=>?_))))
  have g_b4 : w.heap.size ≤ b4:=by have:=E.size;omega
  have y_b4:=h4.lt
  replace E:=E.trans e8;replace hD1:=hD1.ext e8;replace hD2:=hD2.ext e8;replace h1:=h1.ext e8;replace h2:=h2.ext e8;replace hD3:=hD3.ext e8;replace h3:=h3.ext e8;replace hD4:=hD4.ext e8
  have z11:=e8.size
  refine Qs (cs':=[o18,o19,o20,o21,o22,o23,o24,o25]) Q7 Z Z Z (Qb (RdD.one (Worker.opD hD4).1) (Qb (RdD.one (Worker.opD hD4).2.1) (Qb (RdD.one (Worker.opD hD4).2.2.1) (Qb (RdD.one (Worker.opD hD4).2.2.2.1) (Qb (RdD.one (Worker.opD hD4).2.2.2.2.1) (Qb (RdD.one (Worker.opD hD4).2.2.2.2.2.1) (Qb (RdD.one (Worker.opD hD4).2.2.2.2.2.2.1) (Qb (RdD.one (Worker.opD hD4).2.2.2.2.2.2.2) Z)))))))) h4 (Nat.le_of_ble_eq_true Z) Z (fun w12 m4 h4'=>?_)
  replace h4:=h4'
  replace E:=E.step m4 (fun g hg=>by cases hg;omega);replace hD1:=hD1.mod m4 (fun g hg=>by cases hg;omega);replace hD2:=hD2.mod m4 (fun g hg=>by cases hg;omega);replace h1:=h1.mod m4 (fun g hg=>by cases hg;omega);replace h2:=h2.mod m4 (fun g hg=>by cases hg;omega);replace hD3:=hD3.mod m4 (fun g hg=>by cases hg;omega);replace h3:=h3.mod m4 (fun g hg=>by cases hg;omega);replace hD4:=hD4.mod m4 (fun g hg=>by cases hg;omega)
  have z12:=m4.size
  refine Qa (Qg Z) Z (Qf (Qh (Qi [true,true,false,true,true,true,false,false,true] Z Z (Qa (Qo Xt Z h1.at Z) Z (Qa (Qo Q7 Z h2.at Z) Z (Qv Tryz.call8 Z (c_TakeInput [o1,.int .i64 dx1.workers,.int .i64 dx1.cap] dx1 [o2,o3,o4,o5,o6,o7,o8,o9] dx2 _ (Dat.R.any hD1) (Dat.R.any hD2) (by first | omega | (simp;done))) Z (fun _ w13 e9 ho8=>?_)))))))
  obtain ⟨_,rfl,ho9⟩:=ho8
  have g_ho8 : w.heap.size ≤ w12.heap.size:=E.size
  replace E:=E.trans e9;replace hD1:=hD1.ext e9;replace hD2:=hD2.ext e9;replace h1:=h1.ext e9;replace h2:=h2.ext e9;replace hD3:=hD3.ext e9;replace h3:=h3.ext e9;replace hD4:=hD4.ext e9;replace h4:=h4.ext e9
  have z13:=e9.size
  have hD5:=Own1.rd ho9
  obtain ⟨o26,o27,o28,o29,o30,o31,o32,o33,rfl,_,_,_,_,_,_,_,_⟩:=Worker.op hD5
  clear ho9
  refine Qa (Qe Z) Z (Qa (Q5 Z Z) Z (Qa (Q5 Z Z) Z (Q6 Q7 Z (fun b5 w14 e10 s5 h5=>?_))))
  have g_b5 : w.heap.size ≤ b5:=by have:=E.size;omega
  have y_b5:=h5.lt
  replace E:=E.trans e10;replace hD1:=hD1.ext e10;replace hD2:=hD2.ext e10;replace h1:=h1.ext e10;replace h2:=h2.ext e10;replace hD3:=hD3.ext e10;replace h3:=h3.ext e10;replace hD4:=hD4.ext e10;replace h4:=h4.ext e10;replace hD5:=hD5.ext e10
  have z14:=e10.size
  refine Qs (cs':=[o26,o27,o28,o29,o30,o31,o32,o33]) Q7 Z Z Z (Qb (RdD.one (Worker.opD hD5).1) (Qb (RdD.one (Worker.opD hD5).2.1) (Qb (RdD.one (Worker.opD hD5).2.2.1) (Qb (RdD.one (Worker.opD hD5).2.2.2.1) (Qb (RdD.one (Worker.opD hD5).2.2.2.2.1) (Qb (RdD.one (Worker.opD hD5).2.2.2.2.2.1) (Qb (RdD.one (Worker.opD hD5).2.2.2.2.2.2.1) (Qb (RdD.one (Worker.opD hD5).2.2.2.2.2.2.2) Z)))))))) h5 (Nat.le_of_ble_eq_true Z) Z (fun w15 m5 h5'=>?_)
  replace h5:=h5'
  replace E:=E.step m5 (fun g hg=>by cases hg;omega);replace hD1:=hD1.mod m5 (fun g hg=>by cases hg;omega);replace hD2:=hD2.mod m5 (fun g hg=>by cases hg;omega);replace h1:=h1.mod m5 (fun g hg=>by cases hg;omega);replace h2:=h2.mod m5 (fun g hg=>by cases hg;omega);replace hD3:=hD3.mod m5 (fun g hg=>by cases hg;omega);replace h3:=h3.mod m5 (fun g hg=>by cases hg;omega);replace hD4:=hD4.mod m5 (fun g hg=>by cases hg;omega);replace h4:=h4.mod m5 (fun g hg=>by cases hg;omega);replace hD5:=hD5.mod m5 (fun g hg=>by cases hg;omega)
  have z15:=m5.size
  refine Qa (Qg Z) Z (Qf (Qh (Qi [true,true,false,true,true,true,false,false,true] Z Z (Qa (Qo Xt Z h1.at Z) Z (Qa (Qo Q7 Z h2.at Z) Z (Qv Tryz.call9 Z (s_TakeInput [o1,.int .i64 dx1.workers,.int .i64 dx1.cap] dx1 [o2,o3,o4,o5,o6,o7,o8,o9] dx2 _ (Dat.R.any hD1) (Dat.R.any hD2) (by first | omega | (simp;done))) Z (fun _ w16 e11 ho10=>?_)))))))
  obtain ⟨_,rfl,ho11⟩:=ho10
  have g_ho10 : w.heap.size ≤ w15.heap.size:=E.size
  replace E:=E.trans e11;replace hD1:=hD1.ext e11;replace hD2:=hD2.ext e11;replace h1:=h1.ext e11;replace h2:=h2.ext e11;replace hD3:=hD3.ext e11;replace h3:=h3.ext e11;replace hD4:=hD4.ext e11;replace h4:=h4.ext e11;replace hD5:=hD5.ext e11;replace h5:=h5.ext e11
  have z16:=e11.size
  have hD6:=Own1.rd ho11
  obtain ⟨o34,o35,o36,o37,o38,o39,o40,o41,rfl,_,_,_,_,_,_,_,_⟩:=Worker.op hD6
  clear ho11
  refine Qa (Qe Z) Z (Qa (Q5 Z Z) Z (Qa (Q5 Z Z) Z (Q6 Q7 Z (fun b6 w17 e12 s6 h6=>?_))))
  have g_b6 : w.heap.size ≤ b6:=by have:=E.size;omega
  have y_b6:=h6.lt
  replace E:=E.trans e12;replace hD1:=hD1.ext e12;replace hD2:=hD2.ext e12;replace h1:=h1.ext e12;replace h2:=h2.ext e12;replace hD3:=hD3.ext e12;replace h3:=h3.ext e12;replace hD4:=hD4.ext e12;replace h4:=h4.ext e12;replace hD5:=hD5.ext e12;replace h5:=h5.ext e12;replace hD6:=hD6.ext e12
  have z17:=e12.size
  refine Qs (cs':=[o34,o35,o36,o37,o38,o39,o40,o41]) Q7 Z Z Z (Qb (RdD.one (Worker.opD hD6).1) (Qb (RdD.one (Worker.opD hD6).2.1) (Qb (RdD.one (Worker.opD hD6).2.2.1) (Qb (RdD.one (Worker.opD hD6).2.2.2.1) (Qb (RdD.one (Worker.opD hD6).2.2.2.2.1) (Qb (RdD.one (Worker.opD hD6).2.2.2.2.2.1) (Qb (RdD.one (Worker.opD hD6).2.2.2.2.2.2.1) (Qb (RdD.one (Worker.opD hD6).2.2.2.2.2.2.2) Z)))))))) h6 (Nat.le_of_ble_eq_true Z) Z (fun w18 m6 h6'=>?_)
  replace h6:=h6'
  replace E:=E.step m6 (fun g hg=>by cases hg;omega);replace hD1:=hD1.mod m6 (fun g hg=>by cases hg;omega);replace hD2:=hD2.mod m6 (fun g hg=>by cases hg;omega);replace h1:=h1.mod m6 (fun g hg=>by cases hg;omega);replace h2:=h2.mod m6 (fun g hg=>by cases hg;omega);replace hD3:=hD3.mod m6 (fun g hg=>by cases hg;omega);replace h3:=h3.mod m6 (fun g hg=>by cases hg;omega);replace hD4:=hD4.mod m6 (fun g hg=>by cases hg;omega);replace h4:=h4.mod m6 (fun g hg=>by cases hg;omega);replace hD5:=hD5.mod m6 (fun g hg=>by cases hg;omega);replace h5:=h5.mod m6 (fun g hg=>by cases hg;omega);replace hD6:=hD6.mod m6 (fun g hg=>by cases hg;omega)
  have z18:=m6.size
  refine Qa (Qg Z) Z (Qf (Qh (Qh (Yh [(0,vcode),(2,.bool false),(3,.pointer (some ⟨b1,0,none⟩)),(4,.pointer (some ⟨b2,0,none⟩)),(5,.pointer (some ⟨b3,0,none⟩)),(6,.bool ((Q2 dx1 dx2).2)),(7,.pointer (some ⟨b4,0,none⟩)),(8,.bool ((Q2 dx1 dx2).2)),(9,.pointer (some ⟨b5,0,none⟩)),(10,.bool ((Yd dx1 dx2).2)),(11,.pointer (some ⟨b6,0,none⟩)),(12,.bool ((Yd dx1 dx2).2))] ⟨Z,Z,Z,Z,Z,Z,Z,Z,Z,Z,Z,Z,trivial⟩ (Qi [true,true,true,true,true,true,false,true,true,true,true,true,true,true,true,true,true,false,true,true] Z Z (Qa (Qe Z) Z (Qa (Qe Z) Z (Qa (H3 (Tryz.underlying4) Z Z) Z (Qa (Qe Z) Z (Xg 16 [(0,vcode),(2,.bool false),(3,.pointer (some ⟨b1,0,none⟩)),(4,.pointer (some ⟨b2,0,none⟩)),(5,.pointer (some ⟨b3,0,none⟩)),(6,.bool ((Q2 dx1 dx2).2)),(7,.pointer (some ⟨b4,0,none⟩)),(8,.bool ((Q2 dx1 dx2).2)),(9,.pointer (some ⟨b5,0,none⟩)),(10,.bool ((Yd dx1 dx2).2)),(11,.pointer (some ⟨b6,0,none⟩)),(12,.bool ((Yd dx1 dx2).2)),(77,.bool ((((!(((Q2 dx1 dx2).2) == ((Q2 dx1 dx2).2))) || (!(decide (((Q2 dx1 dx2).1) = ((Q2 dx1 dx2).1))))) || (!(((Yd dx1 dx2).2) == ((Yd dx1 dx2).2)))) || (!(decide (((Yd dx1 dx2).1) = ((Yd dx1 dx2).1))))))] (fun w'=>Ext w w' ∧ w18.heap.size ≤ w'.heap.size ∧ Dat.R w' w1.heap.size w2.heap.size [o1,.int .i64 dx1.workers,.int .i64 dx1.cap] dx1 ∧ Dat.R w' w1.heap.size w2.heap.size [o2,o3,o4,o5,o6,o7,o8,o9] dx2 ∧ Blk w' b1 [o1,.int .i64 dx1.workers,.int .i64 dx1.cap] ∧ Blk w' b2 [o2,o3,o4,o5,o6,o7,o8,o9] ∧ Dat.R w' w6.heap.size w7.heap.size [o10,o11,o12,o13,o14,o15,o16,o17] ((Q2 dx1 dx2).1) ∧ Blk w' b3 [o10,o11,o12,o13,o14,o15,o16,o17] ∧ Dat.R w' w9.heap.size w10.heap.size [o18,o19,o20,o21,o22,o23,o24,o25] ((Q2 dx1 dx2).1) ∧ Blk w' b4 [o18,o19,o20,o21,o22,o23,o24,o25] ∧ Dat.R w' w12.heap.size w13.heap.size [o26,o27,o28,o29,o30,o31,o32,o33] ((Yd dx1 dx2).1) ∧ Blk w' b5 [o26,o27,o28,o29,o30,o31,o32,o33] ∧ Dat.R w' w15.heap.size w16.heap.size [o34,o35,o36,o37,o38,o39,o40,o41] ((Yd dx1 dx2).1) ∧ Blk w' b6 [o34,o35,o36,o37,o38,o39,o40,o41]) ?_ ?_))))))))))
  ·refine Ym (gd:=61) Z Z (fun hg1=>?_) (fun hg1=>?_)
   ·exact absurd hg1 (by first | (simp;done) | (simp only [Qp] <;> simp) | (simp only [Qt,Qp] <;> simp) | (simp only [Qt] <;> simp))
   ·refine Qk Z Z (Qo Q7 Z h3.at Z) Z (Qk Z Z (Qo Q7 Z h4.at Z) Z ?_)
    refine Y3 Z Z ?_
    refine Qv Tryz.call10 Z (l_sameWorker [o10,o11,o12,o13,o14,o15,o16,o17] ((Q2 dx1 dx2).1) [o18,o19,o20,o21,o22,o23,o24,o25] ((Q2 dx1 dx2).1) _ (Dat.R.any hD3) (Dat.R.any hD4)) Z (fun _ w20 e13 hv=>?_)
    subst hv
    replace E:=E.trans e13;replace hD1:=hD1.ext e13;replace hD2:=hD2.ext e13;replace h1:=h1.ext e13;replace h2:=h2.ext e13;replace hD3:=hD3.ext e13;replace h3:=h3.ext e13;replace hD4:=hD4.ext e13;replace h4:=h4.ext e13;replace hD5:=hD5.ext e13;replace h5:=h5.ext e13;replace hD6:=hD6.ext e13;replace h6:=h6.ext e13
    have z19:=e13.size
    refine Qk Z Z (Y1 Z) Z (Qa (Qq Z Z) Z (Qa (Qe Z) Z ?_))
    refine Ym (gd:=67) Z Z (fun hg2=>?_) (fun hg2=>?_)
    ·exact absurd hg2 (by first | (simp;done) | (simp only [Qp] <;> simp) | (simp only [Qt,Qp] <;> simp) | (simp only [Qt] <;> simp))
    ·refine Qk Z Z (Qe Z) Z (Qk Z Z (Qe Z) Z (Qk Z Z (H3 (Tryz.underlying4) Z Z) Z (Qa (Qq Z Z) Z (Qa (Qe Z) Z ?_))))
     refine Ym (gd:=72) Z Z (fun hg3=>?_) (fun hg3=>?_)
     ·exact absurd hg3 (by first | (simp;done) | (simp only [Qp] <;> simp) | (simp only [Qt,Qp] <;> simp) | (simp only [Qt] <;> simp))
     ·refine Qk Z Z (Qo Q7 Z h5.at Z) Z (Qk Z Z (Qo Q7 Z h6.at Z) Z ?_)
      refine Y3 Z Z ?_
      refine Qv Tryz.call10 Z (l_sameWorker [o26,o27,o28,o29,o30,o31,o32,o33] ((Yd dx1 dx2).1) [o34,o35,o36,o37,o38,o39,o40,o41] ((Yd dx1 dx2).1) _ (Dat.R.any hD5) (Dat.R.any hD6)) Z (fun _ w21 e14 hv=>?_)
      subst hv
      replace E:=E.trans e14;replace hD1:=hD1.ext e14;replace hD2:=hD2.ext e14;replace h1:=h1.ext e14;replace h2:=h2.ext e14;replace hD3:=hD3.ext e14;replace h3:=h3.ext e14;replace hD4:=hD4.ext e14;replace h4:=h4.ext e14;replace hD5:=hD5.ext e14;replace h5:=h5.ext e14;replace hD6:=hD6.ext e14;replace h6:=h6.ext e14
      have z20:=e14.size
      refine Qk Z Z (Y1 Z) Z (Qa (Qq Z Z) Z (Ql ⟨Z,Z,Z,Z,Z,Z,Z,Z,Z,Z,Z,Z,congrArg (fun b=>some (Value.bool b)) (show (!(decide (((Yd dx1 dx2).1) = ((Yd dx1 dx2).1)))) = ((((!(((Q2 dx1 dx2).2) == ((Q2 dx1 dx2).2))) || (!(decide (((Q2 dx1 dx2).1) = ((Q2 dx1 dx2).1))))) || (!(((Yd dx1 dx2).2) == ((Yd dx1 dx2).2)))) || (!(decide (((Yd dx1 dx2).1) = ((Yd dx1 dx2).1))))) by first | (rw [hg1,hg2,hg3] <;> rfl) | (simp [hg1,hg2,hg3];done) | (simp only [Qp] <;> simp)),trivial⟩ ⟨E,(by omega),hD1,hD2,h1,h2,hD3,h3,hD4,h4,hD5,h5,hD6,h6⟩))
  clear E hD1 hD2 h1 h2 hD3 h3 hD4 h4 hD5 h5 hD6 h6
  rintro w19 ⟨E,z21,hD1,hD2,h1,h2,hD3,h3,hD4,h4,hD5,h5,hD6,h6⟩
  refine Qf (Aa Z (by first | (simp;done) | (simp only [Qp] <;> simp) | (simp only [Qt,Qp] <;> simp) | (simp only [Qt] <;> simp)) (Qy (Qh (Qi [true,false,true,true,true,false,false,false,false] Z Z (Qa (Qe Z) Z (Qv Tryz.call11 Z (s_DrawReceived vcode code _ (hcode.ext E)) Z (fun _ w22 e15 ho12=>?_)))))))
  obtain ⟨dx3,dx4,q3,ho12⟩:=ho12
  obtain ⟨_,rfl,ho13⟩:=ho12
  have g_ho12 : w.heap.size ≤ w19.heap.size:=E.size
  replace E:=E.trans e15;replace hD1:=hD1.ext e15;replace hD2:=hD2.ext e15;replace h1:=h1.ext e15;replace h2:=h2.ext e15;replace hD3:=hD3.ext e15;replace h3:=h3.ext e15;replace hD4:=hD4.ext e15;replace h4:=h4.ext e15;replace hD5:=hD5.ext e15;replace h5:=h5.ext e15;replace hD6:=hD6.ext e15;replace h6:=h6.ext e15
  have z22:=e15.size
  have hD7:=ho13
  obtain ⟨o42,o43,o44,o45,o46,o47,o48,o49,rfl,_,_,_,_,_,_,_,_⟩:=Worker.op hD7
  clear ho13
  refine Qa (Qe Z) Z (Qa (Q5 Z Z) Z (Qa (Q5 Z Z) Z (Q6 Q7 Z (fun b7 w23 e16 s7 h7=>?_))))
  have g_b7 : w.heap.size ≤ b7:=by have:=E.size;omega
  have y_b7:=h7.lt
  replace E:=E.trans e16;replace hD1:=hD1.ext e16;replace hD2:=hD2.ext e16;replace h1:=h1.ext e16;replace h2:=h2.ext e16;replace hD3:=hD3.ext e16;replace h3:=h3.ext e16;replace hD4:=hD4.ext e16;replace h4:=h4.ext e16;replace hD5:=hD5.ext e16;replace h5:=h5.ext e16;replace hD6:=hD6.ext e16;replace h6:=h6.ext e16;replace hD7:=hD7.ext e16
  have z23:=e16.size
  refine Q6 Xh Z (fun b8 w24 e17 s8 h8=>?_)
  have g_b8 : w.heap.size ≤ b8:=by have:=E.size;omega
  have y_b8:=h8.lt
  replace E:=E.trans e17;replace hD1:=hD1.ext e17;replace hD2:=hD2.ext e17;replace h1:=h1.ext e17;replace h2:=h2.ext e17;replace hD3:=hD3.ext e17;replace h3:=h3.ext e17;replace hD4:=hD4.ext e17;replace h4:=h4.ext e17;replace hD5:=hD5.ext e17;replace h5:=h5.ext e17;replace hD6:=hD6.ext e17;replace h6:=h6.ext e17;replace hD7:=hD7.ext e17;replace h7:=h7.ext e17
  have z24:=e17.size
  refine Qs (cs':=[o42,o43,o44,o45,o46,o47,o48,o49]) Q7 Z Z Z (Qb (RdD.one (Worker.opD hD7).1) (Qb (RdD.one (Worker.opD hD7).2.1) (Qb (RdD.one (Worker.opD hD7).2.2.1) (Qb (RdD.one (Worker.opD hD7).2.2.2.1) (Qb (RdD.one (Worker.opD hD7).2.2.2.2.1) (Qb (RdD.one (Worker.opD hD7).2.2.2.2.2.1) (Qb (RdD.one (Worker.opD hD7).2.2.2.2.2.2.1) (Qb (RdD.one (Worker.opD hD7).2.2.2.2.2.2.2) Z)))))))) h7 (Nat.le_of_ble_eq_true Z) Z (fun w25 m7 h7'=>?_)
  replace h7:=h7'
  replace E:=E.step m7 (fun g hg=>by cases hg;omega);replace hD1:=hD1.mod m7 (fun g hg=>by cases hg;omega);replace hD2:=hD2.mod m7 (fun g hg=>by cases hg;omega);replace h1:=h1.mod m7 (fun g hg=>by cases hg;omega);replace h2:=h2.mod m7 (fun g hg=>by cases hg;omega);replace hD3:=hD3.mod m7 (fun g hg=>by cases hg;omega);replace h3:=h3.mod m7 (fun g hg=>by cases hg;omega);replace hD4:=hD4.mod m7 (fun g hg=>by cases hg;omega);replace h4:=h4.mod m7 (fun g hg=>by cases hg;omega);replace hD5:=hD5.mod m7 (fun g hg=>by cases hg;omega);replace h5:=h5.mod m7 (fun g hg=>by cases hg;omega);replace hD6:=hD6.mod m7 (fun g hg=>by cases hg;omega);replace h6:=h6.mod m7 (fun g hg=>by cases hg;omega);replace hD7:=hD7.mod m7 (fun g hg=>by cases hg;omega);replace h8:=h8.mod m7 (fun g hg=>by cases hg;omega)
  have z25:=m7.size
  refine Qs (cs':=[.int .i64 dx4.op,.int .i64 dx4.stamp.epoch,.int .i64 dx4.stamp.turn,.int .i64 dx4.key,.int .i64 dx4.val]) Xh Z Z Z Z h8 (Nat.le_of_ble_eq_true Z) Z (fun w26 m8 h8'=>?_)
  replace h8:=h8'
  replace E:=E.step m8 (fun g hg=>by cases hg;omega);replace hD1:=hD1.mod m8 (fun g hg=>by cases hg;omega);replace hD2:=hD2.mod m8 (fun g hg=>by cases hg;omega);replace h1:=h1.mod m8 (fun g hg=>by cases hg;omega);replace h2:=h2.mod m8 (fun g hg=>by cases hg;omega);replace hD3:=hD3.mod m8 (fun g hg=>by cases hg;omega);replace h3:=h3.mod m8 (fun g hg=>by cases hg;omega);replace hD4:=hD4.mod m8 (fun g hg=>by cases hg;omega);replace h4:=h4.mod m8 (fun g hg=>by cases hg;omega);replace hD5:=hD5.mod m8 (fun g hg=>by cases hg;omega);replace h5:=h5.mod m8 (fun g hg=>by cases hg;omega);replace hD6:=hD6.mod m8 (fun g hg=>by cases hg;omega);replace h6:=h6.mod m8 (fun g hg=>by cases hg;omega);replace hD7:=hD7.mod m8 (fun g hg=>by cases hg;omega);replace h7:=h7.mod m8 (fun g hg=>by cases hg;omega)
  have z26:=m8.size
  refine Qf (Qh (Qi [true,true,false,false,false] Z Z (Qa (Qo Q7 Z h7.at Z) Z (Qa (Qo Xh Z h8.at Z) Z (Qv Tryz.call12 Z (c_Received [o42,o43,o44,o45,o46,o47,o48,o49] dx3 dx4 _ (Dat.R.any hD7) (by first | omega | (simp;done))) Z (fun _ w27 e18 ho14=>?_))))))
  obtain ⟨_,rfl,ho14⟩:=ho14
  have g_ho14 : w.heap.size ≤ w26.heap.size:=E.size
  replace E:=E.trans e18;replace hD1:=hD1.ext e18;replace hD2:=hD2.ext e18;replace h1:=h1.ext e18;replace h2:=h2.ext e18;replace hD3:=hD3.ext e18;replace h3:=h3.ext e18;replace hD4:=hD4.ext e18;replace h4:=h4.ext e18;replace hD5:=hD5.ext e18;replace h5:=h5.ext e18;replace hD6:=hD6.ext e18;replace h6:=h6.ext e18;replace hD7:=hD7.ext e18;replace h7:=h7.ext e18;replace h8:=h8.ext e18
  have z27:=e18.size
  have hD8:=Own1.rd ho14
  obtain ⟨o50,o51,o52,o53,o54,o55,o56,o57,rfl,_,_,_,_,_,_,_,_⟩:=Worker.op hD8
  clear ho14
  refine Q6 Q7 Z (fun b9 w28 e19 s9 h9=>?_)
  have g_b9 : w.heap.size ≤ b9:=by have:=E.size;omega
  have y_b9:=h9.lt
  replace E:=E.trans e19;replace hD1:=hD1.ext e19;replace hD2:=hD2.ext e19;replace h1:=h1.ext e19;replace h2:=h2.ext e19;replace hD3:=hD3.ext e19;replace h3:=h3.ext e19;replace hD4:=hD4.ext e19;replace h4:=h4.ext e19;replace hD5:=hD5.ext e19;replace h5:=h5.ext e19;replace hD6:=hD6.ext e19;replace h6:=h6.ext e19;replace hD7:=hD7.ext e19;replace h7:=h7.ext e19;replace h8:=h8.ext e19;replace hD8:=hD8.ext e19
  have z28:=e19.size
  refine Qs (cs':=[o50,o51,o52,o53,o54,o55,o56,o57]) Q7 Z Z Z (Qb (RdD.one (Worker.opD hD8).1) (Qb (RdD.one (Worker.opD hD8).2.1) (Qb (RdD.one (Worker.opD hD8).2.2.1) (Qb (RdD.one (Worker.opD hD8).2.2.2.1) (Qb (RdD.one (Worker.opD hD8).2.2.2.2.1) (Qb (RdD.one (Worker.opD hD8).2.2.2.2.2.1) (Qb (RdD.one (Worker.opD hD8).2.2.2.2.2.2.1) (Qb (RdD.one (Worker.opD hD8).2.2.2.2.2.2.2) Z)))))))) h9 (Nat.le_of_ble_eq_true Z) Z (fun w29 m9 h9'=>?_)
  replace h9:=h9'
  replace E:=E.step m9 (fun g hg=>by cases hg;omega);replace hD1:=hD1.mod m9 (fun g hg=>by cases hg;omega);replace hD2:=hD2.mod m9 (fun g hg=>by cases hg;omega);replace h1:=h1.mod m9 (fun g hg=>by cases hg;omega);replace h2:=h2.mod m9 (fun g hg=>by cases hg;omega);replace hD3:=hD3.mod m9 (fun g hg=>by cases hg;omega);replace h3:=h3.mod m9 (fun g hg=>by cases hg;omega);replace hD4:=hD4.mod m9 (fun g hg=>by cases hg;omega);replace h4:=h4.mod m9 (fun g hg=>by cases hg;omega);replace hD5:=hD5.mod m9 (fun g hg=>by cases hg;omega);replace h5:=h5.mod m9 (fun g hg=>by cases hg;omega);replace hD6:=hD6.mod m9 (fun g hg=>by cases hg;omega);replace h6:=h6.mod m9 (fun g hg=>by cases hg;omega);replace hD7:=hD7.mod m9 (fun g hg=>by cases hg;omega);replace h7:=h7.mod m9 (fun g hg=>by cases hg;omega);replace h8:=h8.mod m9 (fun g hg=>by cases hg;omega);replace hD8:=hD8.mod m9 (fun g hg=>by cases hg;omega)
  have z29:=m9.size
  refine Qf (Qh (Yh [(0,vcode),(2,.bool false),(3,.pointer (some ⟨b1,0,none⟩)),(4,.pointer (some ⟨b2,0,none⟩)),(5,.pointer (some ⟨b3,0,none⟩)),(6,.bool ((Q2 dx1 dx2).2)),(9,.pointer (some ⟨b5,0,none⟩)),(10,.bool ((Yd dx1 dx2).2)),(13,.pointer (some ⟨b7,0,none⟩)),(14,.pointer (some ⟨b8,0,none⟩)),(15,.pointer (some ⟨b9,0,none⟩))] ⟨Z,Z,Z,Z,Z,Z,Z,Z,Z,Z,Z,trivial⟩ (Qi [true,true,false,false,false] Z Z (Qa (Qo Q7 Z h7.at Z) Z (Qa (Qo Xh Z h8.at Z) Z (Qv Tryz.call13 Z (c_Kept [o42,o43,o44,o45,o46,o47,o48,o49] dx3 dx4 _ (Dat.R.any hD7) (by first | omega | (simp;done))) Z (fun _ w30 e20 ho15=>?_)))))))
  obtain ⟨_,rfl,ho15⟩:=ho15
  have g_ho15 : w.heap.size ≤ w29.heap.size:=E.size
  replace E:=E.trans e20;replace hD1:=hD1.ext e20;replace hD2:=hD2.ext e20;replace h1:=h1.ext e20;replace h2:=h2.ext e20;replace hD3:=hD3.ext e20;replace h3:=h3.ext e20;replace hD4:=hD4.ext e20;replace h4:=h4.ext e20;replace hD5:=hD5.ext e20;replace h5:=h5.ext e20;replace hD6:=hD6.ext e20;replace h6:=h6.ext e20;replace hD7:=hD7.ext e20;replace h7:=h7.ext e20;replace h8:=h8.ext e20;replace hD8:=hD8.ext e20;replace h9:=h9.ext e20
  have z30:=e20.size
  have hD9:=Own1.rd ho15
  obtain ⟨o58,o59,o60,o61,o62,o63,o64,o65,rfl,_,_,_,_,_,_,_,_⟩:=Worker.op hD9
  clear ho15
  refine Q6 Q7 Z (fun b10 w31 e21 s10 h10=>?_)
  have g_b10 : w.heap.size ≤ b10:=by have:=E.size;omega
  have y_b10:=h10.lt
  replace E:=E.trans e21;replace hD1:=hD1.ext e21;replace hD2:=hD2.ext e21;replace h1:=h1.ext e21;replace h2:=h2.ext e21;replace hD3:=hD3.ext e21;replace h3:=h3.ext e21;replace hD4:=hD4.ext e21;replace h4:=h4.ext e21;replace hD5:=hD5.ext e21;replace h5:=h5.ext e21;replace hD6:=hD6.ext e21;replace h6:=h6.ext e21;replace hD7:=hD7.ext e21;replace h7:=h7.ext e21;replace h8:=h8.ext e21;replace hD8:=hD8.ext e21;replace h9:=h9.ext e21;replace hD9:=hD9.ext e21
  have z31:=e21.size
  refine Qs (cs':=[o58,o59,o60,o61,o62,o63,o64,o65]) Q7 Z Z Z (Qb (RdD.one (Worker.opD hD9).1) (Qb (RdD.one (Worker.opD hD9).2.1) (Qb (RdD.one (Worker.opD hD9).2.2.1) (Qb (RdD.one (Worker.opD hD9).2.2.2.1) (Qb (RdD.one (Worker.opD hD9).2.2.2.2.1) (Qb (RdD.one (Worker.opD hD9).2.2.2.2.2.1) (Qb (RdD.one (Worker.opD hD9).2.2.2.2.2.2.1) (Qb (RdD.one (Worker.opD hD9).2.2.2.2.2.2.2) Z)))))))) h10 (Nat.le_of_ble_eq_true Z) Z (fun w32 m10 h10'=>?_)
  replace h10:=h10'
  replace E:=E.step m10 (fun g hg=>by cases hg;omega);replace hD1:=hD1.mod m10 (fun g hg=>by cases hg;omega);replace hD2:=hD2.mod m10 (fun g hg=>by cases hg;omega);replace h1:=h1.mod m10 (fun g hg=>by cases hg;omega);replace h2:=h2.mod m10 (fun g hg=>by cases hg;omega);replace hD3:=hD3.mod m10 (fun g hg=>by cases hg;omega);replace h3:=h3.mod m10 (fun g hg=>by cases hg;omega);replace hD4:=hD4.mod m10 (fun g hg=>by cases hg;omega);replace h4:=h4.mod m10 (fun g hg=>by cases hg;omega);replace hD5:=hD5.mod m10 (fun g hg=>by cases hg;omega);replace h5:=h5.mod m10 (fun g hg=>by cases hg;omega);replace hD6:=hD6.mod m10 (fun g hg=>by cases hg;omega);replace h6:=h6.mod m10 (fun g hg=>by cases hg;omega);replace hD7:=hD7.mod m10 (fun g hg=>by cases hg;omega);replace h7:=h7.mod m10 (fun g hg=>by cases hg;omega);replace h8:=h8.mod m10 (fun g hg=>by cases hg;omega);replace hD8:=hD8.mod m10 (fun g hg=>by cases hg;omega);replace h9:=h9.mod m10 (fun g hg=>by cases hg;omega);replace hD9:=hD9.mod m10 (fun g hg=>by cases hg;omega)
  have z32:=m10.size
  refine Qf (Qh (Qi [true,false,true,true,true,false,false,true] Z Z (Qa (Qe Z) Z (Qv Tryz.call14 Z (s_DrawSentAway vcode code _ (hcode.ext E)) Z (fun _ w33 e22 ho16=>?_)))))
  obtain ⟨dx5,dx6,q4,ho16⟩:=ho16
  obtain ⟨_,rfl,ho17⟩:=ho16
  have g_ho16 : w.heap.size ≤ w32.heap.size:=E.size
  replace E:=E.trans e22;replace hD1:=hD1.ext e22;replace hD2:=hD2.ext e22;replace h1:=h1.ext e22;replace h2:=h2.ext e22;replace hD3:=hD3.ext e22;replace h3:=h3.ext e22;replace hD4:=hD4.ext e22;replace h4:=h4.ext e22;replace hD5:=hD5.ext e22;replace h5:=h5.ext e22;replace hD6:=hD6.ext e22;replace h6:=h6.ext e22;replace hD7:=hD7.ext e22;replace h7:=h7.ext e22;replace h8:=h8.ext e22;replace hD8:=hD8.ext e22;replace h9:=h9.ext e22;replace hD9:=hD9.ext e22;replace h10:=h10.ext e22
  have z33:=e22.size
  have hD10:=ho17
  obtain ⟨o66,o67,o68,o69,o70,o71,o72,o73,rfl,_,_,_,_,_,_,_,_⟩:=Worker.op hD10
  clear ho17
  refine Qa (Qe Z) Z (Qa (Q5 Z Z) Z (Qa (Q5 Z Z) Z (Q6 Q7 Z (fun b11 w34 e23 s11 h11=>?_))))
  have g_b11 : w.heap.size ≤ b11:=by have:=E.size;omega
  have y_b11:=h11.lt
  replace E:=E.trans e23;replace hD1:=hD1.ext e23;replace hD2:=hD2.ext e23;replace h1:=h1.ext e23;replace h2:=h2.ext e23;replace hD3:=hD3.ext e23;replace h3:=h3.ext e23;replace hD4:=hD4.ext e23;replace h4:=h4.ext e23;replace hD5:=hD5.ext e23;replace h5:=h5.ext e23;replace hD6:=hD6.ext e23;replace h6:=h6.ext e23;replace hD7:=hD7.ext e23;replace h7:=h7.ext e23;replace h8:=h8.ext e23;replace hD8:=hD8.ext e23;replace h9:=h9.ext e23;replace hD9:=hD9.ext e23;replace h10:=h10.ext e23;replace hD10:=hD10.ext e23
  have z34:=e23.size
  refine Qs (cs':=[o66,o67,o68,o69,o70,o71,o72,o73]) Q7 Z Z Z (Qb (RdD.one (Worker.opD hD10).1) (Qb (RdD.one (Worker.opD hD10).2.1) (Qb (RdD.one (Worker.opD hD10).2.2.1) (Qb (RdD.one (Worker.opD hD10).2.2.2.1) (Qb (RdD.one (Worker.opD hD10).2.2.2.2.1) (Qb (RdD.one (Worker.opD hD10).2.2.2.2.2.1) (Qb (RdD.one (Worker.opD hD10).2.2.2.2.2.2.1) (Qb (RdD.one (Worker.opD hD10).2.2.2.2.2.2.2) Z)))))))) h11 (Nat.le_of_ble_eq_true Z) Z (fun w35 m11 h11'=>?_)
  replace h11:=h11'
  replace E:=E.step m11 (fun g hg=>by cases hg;omega);replace hD1:=hD1.mod m11 (fun g hg=>by cases hg;omega);replace hD2:=hD2.mod m11 (fun g hg=>by cases hg;omega);replace h1:=h1.mod m11 (fun g hg=>by cases hg;omega);replace h2:=h2.mod m11 (fun g hg=>by cases hg;omega);replace hD3:=hD3.mod m11 (fun g hg=>by cases hg;omega);replace h3:=h3.mod m11 (fun g hg=>by cases hg;omega);replace hD4:=hD4.mod m11 (fun g hg=>by cases hg;omega);replace h4:=h4.mod m11 (fun g hg=>by cases hg;omega);replace hD5:=hD5.mod m11 (fun g hg=>by cases hg;omega);replace h5:=h5.mod m11 (fun g hg=>by cases hg;omega);replace hD6:=hD6.mod m11 (fun g hg=>by cases hg;omega);replace h6:=h6.mod m11 (fun g hg=>by cases hg;omega);replace hD7:=hD7.mod m11 (fun g hg=>by cases hg;omega);replace h7:=h7.mod m11 (fun g hg=>by cases hg;omega);replace h8:=h8.mod m11 (fun g hg=>by cases hg;omega);replace hD8:=hD8.mod m11 (fun g hg=>by cases hg;omega);replace h9:=h9.mod m11 (fun g hg=>by cases hg;omega);replace hD9:=hD9.mod m11 (fun g hg=>by cases hg;omega);replace h10:=h10.mod m11 (fun g hg=>by cases hg;omega);replace hD10:=hD10.mod m11 (fun g hg=>by cases hg;omega)
  have z35:=m11.size
  refine Qa (Qg Z) Z (Qf (Qh (Qi [true,true,false,false,false] Z Z (Qa (Qo Q7 Z h11.at Z) Z (Qa (Qe Z) Z (Qv Tryz.call15 Z (c_SentAway [o66,o67,o68,o69,o70,o71,o72,o73] dx5 dx6 _ (Dat.R.any hD10) (by first | omega | (simp;done))) Z (fun _ w36 e24 ho18=>?_)))))))
  obtain ⟨_,rfl,ho18⟩:=ho18
  have g_ho18 : w.heap.size ≤ w35.heap.size:=E.size
  replace E:=E.trans e24;replace hD1:=hD1.ext e24;replace hD2:=hD2.ext e24;replace h1:=h1.ext e24;replace h2:=h2.ext e24;replace hD3:=hD3.ext e24;replace h3:=h3.ext e24;replace hD4:=hD4.ext e24;replace h4:=h4.ext e24;replace hD5:=hD5.ext e24;replace h5:=h5.ext e24;replace hD6:=hD6.ext e24;replace h6:=h6.ext e24;replace hD7:=hD7.ext e24;replace h7:=h7.ext e24;replace h8:=h8.ext e24;replace hD8:=hD8.ext e24;replace h9:=h9.ext e24;replace hD9:=hD9.ext e24;replace h10:=h10.ext e24;replace hD10:=hD10.ext e24;replace h11:=h11.ext e24
  have z36:=e24.size
  have hD11:=Own1.rd ho18
  obtain ⟨o74,o75,o76,o77,o78,o79,o80,o81,rfl,_,_,_,_,_,_,_,_⟩:=Worker.op hD11
  clear ho18
  refine Q6 Q7 Z (fun b12 w37 e25 s12 h12=>?_)
  have g_b12 : w.heap.size ≤ b12:=by have:=E.size;omega
  have y_b12:=h12.lt
  replace E:=E.trans e25;replace hD1:=hD1.ext e25;replace hD2:=hD2.ext e25;replace h1:=h1.ext e25;replace h2:=h2.ext e25;replace hD3:=hD3.ext e25;replace h3:=h3.ext e25;replace hD4:=hD4.ext e25;replace h4:=h4.ext e25;replace hD5:=hD5.ext e25;replace h5:=h5.ext e25;replace hD6:=hD6.ext e25;replace h6:=h6.ext e25;replace hD7:=hD7.ext e25;replace h7:=h7.ext e25;replace h8:=h8.ext e25;replace hD8:=hD8.ext e25;replace h9:=h9.ext e25;replace hD9:=hD9.ext e25;replace h10:=h10.ext e25;replace hD10:=hD10.ext e25;replace h11:=h11.ext e25;replace hD11:=hD11.ext e25
  have z37:=e25.size
  refine Qs (cs':=[o74,o75,o76,o77,o78,o79,o80,o81]) Q7 Z Z Z (Qb (RdD.one (Worker.opD hD11).1) (Qb (RdD.one (Worker.opD hD11).2.1) (Qb (RdD.one (Worker.opD hD11).2.2.1) (Qb (RdD.one (Worker.opD hD11).2.2.2.1) (Qb (RdD.one (Worker.opD hD11).2.2.2.2.1) (Qb (RdD.one (Worker.opD hD11).2.2.2.2.2.1) (Qb (RdD.one (Worker.opD hD11).2.2.2.2.2.2.1) (Qb (RdD.one (Worker.opD hD11).2.2.2.2.2.2.2) Z)))))))) h12 (Nat.le_of_ble_eq_true Z) Z (fun w38 m12 h12'=>?_)
  replace h12:=h12'
  replace E:=E.step m12 (fun g hg=>by cases hg;omega);replace hD1:=hD1.mod m12 (fun g hg=>by cases hg;omega);replace hD2:=hD2.mod m12 (fun g hg=>by cases hg;omega);replace h1:=h1.mod m12 (fun g hg=>by cases hg;omega);replace h2:=h2.mod m12 (fun g hg=>by cases hg;omega);replace hD3:=hD3.mod m12 (fun g hg=>by cases hg;omega);replace h3:=h3.mod m12 (fun g hg=>by cases hg;omega);replace hD4:=hD4.mod m12 (fun g hg=>by cases hg;omega);replace h4:=h4.mod m12 (fun g hg=>by cases hg;omega);replace hD5:=hD5.mod m12 (fun g hg=>by cases hg;omega);replace h5:=h5.mod m12 (fun g hg=>by cases hg;omega);replace hD6:=hD6.mod m12 (fun g hg=>by cases hg;omega);replace h6:=h6.mod m12 (fun g hg=>by cases hg;omega);replace hD7:=hD7.mod m12 (fun g hg=>by cases hg;omega);replace h7:=h7.mod m12 (fun g hg=>by cases hg;omega);replace h8:=h8.mod m12 (fun g hg=>by cases hg;omega);replace hD8:=hD8.mod m12 (fun g hg=>by cases hg;omega);replace h9:=h9.mod m12 (fun g hg=>by cases hg;omega);replace hD9:=hD9.mod m12 (fun g hg=>by cases hg;omega);replace h10:=h10.mod m12 (fun g hg=>by cases hg;omega);replace hD10:=hD10.mod m12 (fun g hg=>by cases hg;omega);replace h11:=h11.mod m12 (fun g hg=>by cases hg;omega);replace hD11:=hD11.mod m12 (fun g hg=>by cases hg;omega)
  have z38:=m12.size
  refine Qf (Qh (Qi [true,false,false,false] Z Z (Qa (Qe Z) Z (Qv Tryz.call16 Z (s_DrawUnstaged vcode code _ (hcode.ext E)) Z (fun v1 w39 e26 ho19=>?_)))))
  obtain ⟨dx7,q5,ho19⟩:=ho19
  obtain ⟨_,rfl,ho19⟩:=ho19
  replace E:=E.trans e26;replace hD1:=hD1.ext e26;replace hD2:=hD2.ext e26;replace h1:=h1.ext e26;replace h2:=h2.ext e26;replace hD3:=hD3.ext e26;replace h3:=h3.ext e26;replace hD4:=hD4.ext e26;replace h4:=h4.ext e26;replace hD5:=hD5.ext e26;replace h5:=h5.ext e26;replace hD6:=hD6.ext e26;replace h6:=h6.ext e26;replace hD7:=hD7.ext e26;replace h7:=h7.ext e26;replace h8:=h8.ext e26;replace hD8:=hD8.ext e26;replace h9:=h9.ext e26;replace hD9:=hD9.ext e26;replace h10:=h10.ext e26;replace hD10:=hD10.ext e26;replace h11:=h11.ext e26;replace hD11:=hD11.ext e26;replace h12:=h12.ext e26
  have z39:=e26.size
  have hD12:=ho19
  obtain ⟨o82,o83,o84,o85,o86,o87,o88,o89,rfl,_,_,_,_,_,_,_,_⟩:=Worker.op hD12
  clear ho19
  refine Q6 Q7 Z (fun b13 w40 e27 s13 h13=>?_)
  have g_b13 : w.heap.size ≤ b13:=by have:=E.size;omega
  have y_b13:=h13.lt
  replace E:=E.trans e27;replace hD1:=hD1.ext e27;replace hD2:=hD2.ext e27;replace h1:=h1.ext e27;replace h2:=h2.ext e27;replace hD3:=hD3.ext e27;replace h3:=h3.ext e27;replace hD4:=hD4.ext e27;replace h4:=h4.ext e27;replace hD5:=hD5.ext e27;replace h5:=h5.ext e27;replace hD6:=hD6.ext e27;replace h6:=h6.ext e27;replace hD7:=hD7.ext e27;replace h7:=h7.ext e27;replace h8:=h8.ext e27;replace hD8:=hD8.ext e27;replace h9:=h9.ext e27;replace hD9:=hD9.ext e27;replace h10:=h10.ext e27;replace hD10:=hD10.ext e27;replace h11:=h11.ext e27;replace hD11:=hD11.ext e27;replace h12:=h12.ext e27;replace hD12:=hD12.ext e27
  have z40:=e27.size
  refine Qs (cs':=[o82,o83,o84,o85,o86,o87,o88,o89]) Q7 Z Z Z (Qb (RdD.one (Worker.opD hD12).1) (Qb (RdD.one (Worker.opD hD12).2.1) (Qb (RdD.one (Worker.opD hD12).2.2.1) (Qb (RdD.one (Worker.opD hD12).2.2.2.1) (Qb (RdD.one (Worker.opD hD12).2.2.2.2.1) (Qb (RdD.one (Worker.opD hD12).2.2.2.2.2.1) (Qb (RdD.one (Worker.opD hD12).2.2.2.2.2.2.1) (Qb (RdD.one (Worker.opD hD12).2.2.2.2.2.2.2) Z)))))))) h13 (Nat.le_of_ble_eq_true Z) Z (fun w41 m13 h13'=>?_)
  replace h13:=h13'
  replace E:=E.step m13 (fun g hg=>by cases hg;omega);replace hD1:=hD1.mod m13 (fun g hg=>by cases hg;omega);replace hD2:=hD2.mod m13 (fun g hg=>by cases hg;omega);replace h1:=h1.mod m13 (fun g hg=>by cases hg;omega);replace h2:=h2.mod m13 (fun g hg=>by cases hg;omega);replace hD3:=hD3.mod m13 (fun g hg=>by cases hg;omega);replace h3:=h3.mod m13 (fun g hg=>by cases hg;omega);replace hD4:=hD4.mod m13 (fun g hg=>by cases hg;omega);replace h4:=h4.mod m13 (fun g hg=>by cases hg;omega);replace hD5:=hD5.mod m13 (fun g hg=>by cases hg;omega);replace h5:=h5.mod m13 (fun g hg=>by cases hg;omega);replace hD6:=hD6.mod m13 (fun g hg=>by cases hg;omega);replace h6:=h6.mod m13 (fun g hg=>by cases hg;omega);replace hD7:=hD7.mod m13 (fun g hg=>by cases hg;omega);replace h7:=h7.mod m13 (fun g hg=>by cases hg;omega);replace h8:=h8.mod m13 (fun g hg=>by cases hg;omega);replace hD8:=hD8.mod m13 (fun g hg=>by cases hg;omega);replace h9:=h9.mod m13 (fun g hg=>by cases hg;omega);replace hD9:=hD9.mod m13 (fun g hg=>by cases hg;omega);replace h10:=h10.mod m13 (fun g hg=>by cases hg;omega);replace hD10:=hD10.mod m13 (fun g hg=>by cases hg;omega);replace h11:=h11.mod m13 (fun g hg=>by cases hg;omega);replace hD11:=hD11.mod m13 (fun g hg=>by cases hg;omega);replace h12:=h12.mod m13 (fun g hg=>by cases hg;omega);replace hD12:=hD12.mod m13 (fun g hg=>by cases hg;omega)
  have z41:=m13.size
  refine Qf (Qh (Yh [(2,.bool false),(3,.pointer (some ⟨b1,0,none⟩)),(4,.pointer (some ⟨b2,0,none⟩)),(5,.pointer (some ⟨b3,0,none⟩)),(6,.bool ((Q2 dx1 dx2).2)),(9,.pointer (some ⟨b5,0,none⟩)),(10,.bool ((Yd dx1 dx2).2)),(13,.pointer (some ⟨b7,0,none⟩)),(14,.pointer (some ⟨b8,0,none⟩)),(15,.pointer (some ⟨b9,0,none⟩)),(16,.pointer (some ⟨b10,0,none⟩)),(17,.pointer (some ⟨b11,0,none⟩)),(18,.int .i64 dx6),(19,.pointer (some ⟨b12,0,none⟩)),(20,.pointer (some ⟨b13,0,none⟩))] ⟨Z,Z,Z,Z,Z,Z,Z,Z,Z,Z,Z,Z,Z,Z,Z,trivial⟩ (Qi [true,false,true,true,true,true,false,false,false,false,true] Z Z (Qa (Qo Q7 Z h13.at Z) Z (Qv Tryz.call17 Z (c_Unstaged [o82,o83,o84,o85,o86,o87,o88,o89] dx7 _ (Dat.R.any hD12) (by first | omega | (simp;done))) Z (fun _ w42 e28 ho20=>?_))))))
  obtain ⟨_,rfl,ho21⟩:=ho20
  have g_ho20 : w.heap.size ≤ w41.heap.size:=E.size
  replace E:=E.trans e28;replace hD1:=hD1.ext e28;replace hD2:=hD2.ext e28;replace h1:=h1.ext e28;replace h2:=h2.ext e28;replace hD3:=hD3.ext e28;replace h3:=h3.ext e28;replace hD4:=hD4.ext e28;replace h4:=h4.ext e28;replace hD5:=hD5.ext e28;replace h5:=h5.ext e28;replace hD6:=hD6.ext e28;replace h6:=h6.ext e28;replace hD7:=hD7.ext e28;replace h7:=h7.ext e28;replace h8:=h8.ext e28;replace hD8:=hD8.ext e28;replace h9:=h9.ext e28;replace hD9:=hD9.ext e28;replace h10:=h10.ext e28;replace hD10:=hD10.ext e28;replace h11:=h11.ext e28;replace hD11:=hD11.ext e28;replace h12:=h12.ext e28;replace hD12:=hD12.ext e28;replace h13:=h13.ext e28
  have z42:=e28.size
  have hD13:=Own1.rd ho21
  obtain ⟨o90,o91,o92,o93,o94,o95,o96,o97,rfl,_,_,_,_,_,_,_,_⟩:=Worker.op hD13
  clear ho21
  refine Qa (Qe Z) Z (Qa (Q5 Z Z) Z (Qa (Q5 Z Z) Z (Qa (Q5 Z Z) Z (Q6 Q7 Z (fun b14 w43 e29 s14 h14=>?_)))))
  have g_b14 : w.heap.size ≤ b14:=by have:=E.size;omega
  have y_b14:=h14.lt
  replace E:=E.trans e29;replace hD1:=hD1.ext e29;replace hD2:=hD2.ext e29;replace h1:=h1.ext e29;replace h2:=h2.ext e29;replace hD3:=hD3.ext e29;replace h3:=h3.ext e29;replace hD4:=hD4.ext e29;replace h4:=h4.ext e29;replace hD5:=hD5.ext e29;replace h5:=h5.ext e29;replace hD6:=hD6.ext e29;replace h6:=h6.ext e29;replace hD7:=hD7.ext e29;replace h7:=h7.ext e29;replace h8:=h8.ext e29;replace hD8:=hD8.ext e29;replace h9:=h9.ext e29;replace hD9:=hD9.ext e29;replace h10:=h10.ext e29;replace hD10:=hD10.ext e29;replace h11:=h11.ext e29;replace hD11:=hD11.ext e29;replace h12:=h12.ext e29;replace hD12:=hD12.ext e29;replace h13:=h13.ext e29;replace hD13:=hD13.ext e29
  have z43:=e29.size
  refine Q6 Xh Z (fun b15 w44 e30 s15 h15=>?_)
  have g_b15 : w.heap.size ≤ b15:=by have:=E.size;omega
  have y_b15:=h15.lt
  replace E:=E.trans e30;replace hD1:=hD1.ext e30;replace hD2:=hD2.ext e30;replace h1:=h1.ext e30;replace h2:=h2.ext e30;replace hD3:=hD3.ext e30;replace h3:=h3.ext e30;replace hD4:=hD4.ext e30;replace h4:=h4.ext e30;replace hD5:=hD5.ext e30;replace h5:=h5.ext e30;replace hD6:=hD6.ext e30;replace h6:=h6.ext e30;replace hD7:=hD7.ext e30;replace h7:=h7.ext e30;replace h8:=h8.ext e30;replace hD8:=hD8.ext e30;replace h9:=h9.ext e30;replace hD9:=hD9.ext e30;replace h10:=h10.ext e30;replace hD10:=hD10.ext e30;replace h11:=h11.ext e30;replace hD11:=hD11.ext e30;replace h12:=h12.ext e30;replace hD12:=hD12.ext e30;replace h13:=h13.ext e30;replace hD13:=hD13.ext e30;replace h14:=h14.ext e30
  have z44:=e30.size
  refine Qs (cs':=[o90,o91,o92,o93,o94,o95,o96,o97]) Q7 Z Z Z (Qb (RdD.one (Worker.opD hD13).1) (Qb (RdD.one (Worker.opD hD13).2.1) (Qb (RdD.one (Worker.opD hD13).2.2.1) (Qb (RdD.one (Worker.opD hD13).2.2.2.1) (Qb (RdD.one (Worker.opD hD13).2.2.2.2.1) (Qb (RdD.one (Worker.opD hD13).2.2.2.2.2.1) (Qb (RdD.one (Worker.opD hD13).2.2.2.2.2.2.1) (Qb (RdD.one (Worker.opD hD13).2.2.2.2.2.2.2) Z)))))))) h14 (Nat.le_of_ble_eq_true Z) Z (fun w45 m14 h14'=>?_)
  replace h14:=h14'
  replace E:=E.step m14 (fun g hg=>by cases hg;omega);replace hD1:=hD1.mod m14 (fun g hg=>by cases hg;omega);replace hD2:=hD2.mod m14 (fun g hg=>by cases hg;omega);replace h1:=h1.mod m14 (fun g hg=>by cases hg;omega);replace h2:=h2.mod m14 (fun g hg=>by cases hg;omega);replace hD3:=hD3.mod m14 (fun g hg=>by cases hg;omega);replace h3:=h3.mod m14 (fun g hg=>by cases hg;omega);replace hD4:=hD4.mod m14 (fun g hg=>by cases hg;omega);replace h4:=h4.mod m14 (fun g hg=>by cases hg;omega);replace hD5:=hD5.mod m14 (fun g hg=>by cases hg;omega);replace h5:=h5.mod m14 (fun g hg=>by cases hg;omega);replace hD6:=hD6.mod m14 (fun g hg=>by cases hg;omega);replace h6:=h6.mod m14 (fun g hg=>by cases hg;omega);replace hD7:=hD7.mod m14 (fun g hg=>by cases hg;omega);replace h7:=h7.mod m14 (fun g hg=>by cases hg;omega);replace h8:=h8.mod m14 (fun g hg=>by cases hg;omega);replace hD8:=hD8.mod m14 (fun g hg=>by cases hg;omega);replace h9:=h9.mod m14 (fun g hg=>by cases hg;omega);replace hD9:=hD9.mod m14 (fun g hg=>by cases hg;omega);replace h10:=h10.mod m14 (fun g hg=>by cases hg;omega);replace hD10:=hD10.mod m14 (fun g hg=>by cases hg;omega);replace h11:=h11.mod m14 (fun g hg=>by cases hg;omega);replace hD11:=hD11.mod m14 (fun g hg=>by cases hg;omega);replace h12:=h12.mod m14 (fun g hg=>by cases hg;omega);replace hD12:=hD12.mod m14 (fun g hg=>by cases hg;omega);replace h13:=h13.mod m14 (fun g hg=>by cases hg;omega);replace hD13:=hD13.mod m14 (fun g hg=>by cases hg;omega);replace h15:=h15.mod m14 (fun g hg=>by cases hg;omega)
  have z45:=m14.size
  refine Qs (cs':=[.int .i64 (((Xa dx7).2.1).op),.int .i64 ((((Xa dx7).2.1).stamp).epoch),.int .i64 ((((Xa dx7).2.1).stamp).turn),.int .i64 (((Xa dx7).2.1).key),.int .i64 (((Xa dx7).2.1).val)]) Xh Z Z Z Z h15 (Nat.le_of_ble_eq_true Z) Z (fun w46 m15 h15'=>?_)
  replace h15:=h15'
  replace E:=E.step m15 (fun g hg=>by cases hg;omega);replace hD1:=hD1.mod m15 (fun g hg=>by cases hg;omega);replace hD2:=hD2.mod m15 (fun g hg=>by cases hg;omega);replace h1:=h1.mod m15 (fun g hg=>by cases hg;omega);replace h2:=h2.mod m15 (fun g hg=>by cases hg;omega);replace hD3:=hD3.mod m15 (fun g hg=>by cases hg;omega);replace h3:=h3.mod m15 (fun g hg=>by cases hg;omega);replace hD4:=hD4.mod m15 (fun g hg=>by cases hg;omega);replace h4:=h4.mod m15 (fun g hg=>by cases hg;omega);replace hD5:=hD5.mod m15 (fun g hg=>by cases hg;omega);replace h5:=h5.mod m15 (fun g hg=>by cases hg;omega);replace hD6:=hD6.mod m15 (fun g hg=>by cases hg;omega);replace h6:=h6.mod m15 (fun g hg=>by cases hg;omega);replace hD7:=hD7.mod m15 (fun g hg=>by cases hg;omega);replace h7:=h7.mod m15 (fun g hg=>by cases hg;omega);replace h8:=h8.mod m15 (fun g hg=>by cases hg;omega);replace hD8:=hD8.mod m15 (fun g hg=>by cases hg;omega);replace h9:=h9.mod m15 (fun g hg=>by cases hg;omega);replace hD9:=hD9.mod m15 (fun g hg=>by cases hg;omega);replace h10:=h10.mod m15 (fun g hg=>by cases hg;omega);replace hD10:=hD10.mod m15 (fun g hg=>by cases hg;omega);replace h11:=h11.mod m15 (fun g hg=>by cases hg;omega);replace hD11:=hD11.mod m15 (fun g hg=>by cases hg;omega);replace h12:=h12.mod m15 (fun g hg=>by cases hg;omega);replace hD12:=hD12.mod m15 (fun g hg=>by cases hg;omega);replace h13:=h13.mod m15 (fun g hg=>by cases hg;omega);replace hD13:=hD13.mod m15 (fun g hg=>by cases hg;omega);replace h14:=h14.mod m15 (fun g hg=>by cases hg;omega)
  have z46:=m15.size
  refine Qa (Qg Z) Z (Qf (Qh (Qi [true,false,true,true,true,true,false,false,false,false,true] Z Z (Qa (Qo Q7 Z h13.at Z) Z (Qv Tryz.call18 Z (s_Unstaged [o82,o83,o84,o85,o86,o87,o88,o89] dx7 _ (Dat.R.any hD12) (by first | omega | (simp;done))) Z (fun _ w47 e31 ho22=>?_))))))
  obtain ⟨_,rfl,ho23⟩:=ho22
  have g_ho22 : w.heap.size ≤ w46.heap.size:=E.size
  replace E:=E.trans e31;replace hD1:=hD1.ext e31;replace hD2:=hD2.ext e31;replace h1:=h1.ext e31;replace h2:=h2.ext e31;replace hD3:=hD3.ext e31;replace h3:=h3.ext e31;replace hD4:=hD4.ext e31;replace h4:=h4.ext e31;replace hD5:=hD5.ext e31;replace h5:=h5.ext e31;replace hD6:=hD6.ext e31;replace h6:=h6.ext e31;replace hD7:=hD7.ext e31;replace h7:=h7.ext e31;replace h8:=h8.ext e31;replace hD8:=hD8.ext e31;replace h9:=h9.ext e31;replace hD9:=hD9.ext e31;replace h10:=h10.ext e31;replace hD10:=hD10.ext e31;replace h11:=h11.ext e31;replace hD11:=hD11.ext e31;replace h12:=h12.ext e31;replace hD12:=hD12.ext e31;replace h13:=h13.ext e31;replace hD13:=hD13.ext e31;replace h14:=h14.ext e31;replace h15:=h15.ext e31
  have z47:=e31.size
  have hD14:=Own1.rd ho23
  obtain ⟨o98,o99,o100,o101,o102,o103,o104,o105,rfl,_,_,_,_,_,_,_,_⟩:=Worker.op hD14
  clear ho23
  refine Qa (Qe Z) Z (Qa (Q5 Z Z) Z (Qa (Q5 Z Z) Z (Qa (Q5 Z Z) Z (Q6 Q7 Z (fun b16 w48 e32 s16 h16=>?_)))))
  have g_b16 : w.heap.size ≤ b16:=by have:=E.size;omega
  have y_b16:=h16.lt
  replace E:=E.trans e32;replace hD1:=hD1.ext e32;replace hD2:=hD2.ext e32;replace h1:=h1.ext e32;replace h2:=h2.ext e32;replace hD3:=hD3.ext e32;replace h3:=h3.ext e32;replace hD4:=hD4.ext e32;replace h4:=h4.ext e32;replace hD5:=hD5.ext e32;replace h5:=h5.ext e32;replace hD6:=hD6.ext e32;replace h6:=h6.ext e32;replace hD7:=hD7.ext e32;replace h7:=h7.ext e32;replace h8:=h8.ext e32;replace hD8:=hD8.ext e32;replace h9:=h9.ext e32;replace hD9:=hD9.ext e32;replace h10:=h10.ext e32;replace hD10:=hD10.ext e32;replace h11:=h11.ext e32;replace hD11:=hD11.ext e32;replace h12:=h12.ext e32;replace hD12:=hD12.ext e32;replace h13:=h13.ext e32;replace hD13:=hD13.ext e32;replace h14:=h14.ext e32;replace h15:=h15.ext e32;replace hD14:=hD14.ext e32
  have z48:=e32.size
  refine Q6 Xh Z (fun b17 w49 e33 s17 h17=>?_)
  have g_b17 : w.heap.size ≤ b17:=by have:=E.size;omega
  have y_b17:=h17.lt
  replace E:=E.trans e33;replace hD1:=hD1.ext e33;replace hD2:=hD2.ext e33;replace h1:=h1.ext e33;replace h2:=h2.ext e33;replace hD3:=hD3.ext e33;replace h3:=h3.ext e33;replace hD4:=hD4.ext e33;replace h4:=h4.ext e33;replace hD5:=hD5.ext e33;replace h5:=h5.ext e33;replace hD6:=hD6.ext e33;replace h6:=h6.ext e33;replace hD7:=hD7.ext e33;replace h7:=h7.ext e33;replace h8:=h8.ext e33;replace hD8:=hD8.ext e33;replace h9:=h9.ext e33;replace hD9:=hD9.ext e33;replace h10:=h10.ext e33;replace hD10:=hD10.ext e33;replace h11:=h11.ext e33;replace hD11:=hD11.ext e33;replace h12:=h12.ext e33;replace hD12:=hD12.ext e33;replace h13:=h13.ext e33;replace hD13:=hD13.ext e33;replace h14:=h14.ext e33;replace h15:=h15.ext e33;replace hD14:=hD14.ext e33;replace h16:=h16.ext e33
  have z49:=e33.size
  refine Qs (cs':=[o98,o99,o100,o101,o102,o103,o104,o105]) Q7 Z Z Z (Qb (RdD.one (Worker.opD hD14).1) (Qb (RdD.one (Worker.opD hD14).2.1) (Qb (RdD.one (Worker.opD hD14).2.2.1) (Qb (RdD.one (Worker.opD hD14).2.2.2.1) (Qb (RdD.one (Worker.opD hD14).2.2.2.2.1) (Qb (RdD.one (Worker.opD hD14).2.2.2.2.2.1) (Qb (RdD.one (Worker.opD hD14).2.2.2.2.2.2.1) (Qb (RdD.one (Worker.opD hD14).2.2.2.2.2.2.2) Z)))))))) h16 (Nat.le_of_ble_eq_true Z) Z (fun w50 m16 h16'=>?_)
  replace h16:=h16'
  replace E:=E.step m16 (fun g hg=>by cases hg;omega);replace hD1:=hD1.mod m16 (fun g hg=>by cases hg;omega);replace hD2:=hD2.mod m16 (fun g hg=>by cases hg;omega);replace h1:=h1.mod m16 (fun g hg=>by cases hg;omega);replace h2:=h2.mod m16 (fun g hg=>by cases hg;omega);replace hD3:=hD3.mod m16 (fun g hg=>by cases hg;omega);replace h3:=h3.mod m16 (fun g hg=>by cases hg;omega);replace hD4:=hD4.mod m16 (fun g hg=>by cases hg;omega);replace h4:=h4.mod m16 (fun g hg=>by cases hg;omega);replace hD5:=hD5.mod m16 (fun g hg=>by cases hg;omega);replace h5:=h5.mod m16 (fun g hg=>by cases hg;omega);replace hD6:=hD6.mod m16 (fun g hg=>by cases hg;omega);replace h6:=h6.mod m16 (fun g hg=>by cases hg;omega);replace hD7:=hD7.mod m16 (fun g hg=>by cases hg;omega);replace h7:=h7.mod m16 (fun g hg=>by cases hg;omega);replace h8:=h8.mod m16 (fun g hg=>by cases hg;omega);replace hD8:=hD8.mod m16 (fun g hg=>by cases hg;omega);replace h9:=h9.mod m16 (fun g hg=>by cases hg;omega);replace hD9:=hD9.mod m16 (fun g hg=>by cases hg;omega);replace h10:=h10.mod m16 (fun g hg=>by cases hg;omega);replace hD10:=hD10.mod m16 (fun g hg=>by cases hg;omega);replace h11:=h11.mod m16 (fun g hg=>by cases hg;omega);replace hD11:=hD11.mod m16 (fun g hg=>by cases hg;omega);replace h12:=h12.mod m16 (fun g hg=>by cases hg;omega);replace hD12:=hD12.mod m16 (fun g hg=>by cases hg;omega);replace h13:=h13.mod m16 (fun g hg=>by cases hg;omega);replace hD13:=hD13.mod m16 (fun g hg=>by cases hg;omega);replace h14:=h14.mod m16 (fun g hg=>by cases hg;omega);replace h15:=h15.mod m16 (fun g hg=>by cases hg;omega);replace hD14:=hD14.mod m16 (fun g hg=>by cases hg;omega);replace h17:=h17.mod m16 (fun g hg=>by cases hg;omega)
  have z50:=m16.size
  refine Qs (cs':=[.int .i64 (((Xa dx7).2.1).op),.int .i64 ((((Xa dx7).2.1).stamp).epoch),.int .i64 ((((Xa dx7).2.1).stamp).turn),.int .i64 (((Xa dx7).2.1).key),.int .i64 (((Xa dx7).2.1).val)]) Xh Z Z Z Z h17 (Nat.le_of_ble_eq_true Z) Z (fun w51 m17 h17'=>?_)
  replace h17:=h17'
  replace E:=E.step m17 (fun g hg=>by cases hg;omega);replace hD1:=hD1.mod m17 (fun g hg=>by cases hg;omega);replace hD2:=hD2.mod m17 (fun g hg=>by cases hg;omega);replace h1:=h1.mod m17 (fun g hg=>by cases hg;omega);replace h2:=h2.mod m17 (fun g hg=>by cases hg;omega);replace hD3:=hD3.mod m17 (fun g hg=>by cases hg;omega);replace h3:=h3.mod m17 (fun g hg=>by cases hg;omega);replace hD4:=hD4.mod m17 (fun g hg=>by cases hg;omega);replace h4:=h4.mod m17 (fun g hg=>by cases hg;omega);replace hD5:=hD5.mod m17 (fun g hg=>by cases hg;omega);replace h5:=h5.mod m17 (fun g hg=>by cases hg;omega);replace hD6:=hD6.mod m17 (fun g hg=>by cases hg;omega);replace h6:=h6.mod m17 (fun g hg=>by cases hg;omega);replace hD7:=hD7.mod m17 (fun g hg=>by cases hg;omega);replace h7:=h7.mod m17 (fun g hg=>by cases hg;omega);replace h8:=h8.mod m17 (fun g hg=>by cases hg;omega);replace hD8:=hD8.mod m17 (fun g hg=>by cases hg;omega);replace h9:=h9.mod m17 (fun g hg=>by cases hg;omega);replace hD9:=hD9.mod m17 (fun g hg=>by cases hg;omega);replace h10:=h10.mod m17 (fun g hg=>by cases hg;omega);replace hD10:=hD10.mod m17 (fun g hg=>by cases hg;omega);replace h11:=h11.mod m17 (fun g hg=>by cases hg;omega);replace hD11:=hD11.mod m17 (fun g hg=>by cases hg;omega);replace h12:=h12.mod m17 (fun g hg=>by cases hg;omega);replace hD12:=hD12.mod m17 (fun g hg=>by cases hg;omega);replace h13:=h13.mod m17 (fun g hg=>by cases hg;omega);replace hD13:=hD13.mod m17 (fun g hg=>by cases hg;omega);replace h14:=h14.mod m17 (fun g hg=>by cases hg;omega);replace h15:=h15.mod m17 (fun g hg=>by cases hg;omega);replace hD14:=hD14.mod m17 (fun g hg=>by cases hg;omega);replace h16:=h16.mod m17 (fun g hg=>by cases hg;omega)
  have z51:=m17.size
  refine Qa (Qg Z) Z (Qf (Qh (Qh (Xu Xo [(0,true),(1,true),(2,true),(3,false),(4,false),(5,true),(6,true),(7,true),(8,true),(9,true),(10,false),(11,false),(12,true),(13,true),(14,true),(15,true),(16,true),(17,true),(18,false),(19,false),(20,true),(21,true),(22,true),(23,true),(24,true),(25,true),(26,true),(27,true),(28,true),(29,true),(30,true),(31,true),(32,true),(33,true),(34,true),(35,false),(36,true),(37,true),(38,true),(39,true),(41,true),(40,false),(42,false),(43,true),(44,true)] (by decide +kernel) Z (fun w52 e34=>?_)))))
  replace E:=E.trans e34;replace hD1:=hD1.ext e34;replace hD2:=hD2.ext e34;replace h1:=h1.ext e34;replace h2:=h2.ext e34;replace hD3:=hD3.ext e34;replace h3:=h3.ext e34;replace hD4:=hD4.ext e34;replace h4:=h4.ext e34;replace hD5:=hD5.ext e34;replace h5:=h5.ext e34;replace hD6:=hD6.ext e34;replace h6:=h6.ext e34;replace hD7:=hD7.ext e34;replace h7:=h7.ext e34;replace h8:=h8.ext e34;replace hD8:=hD8.ext e34;replace h9:=h9.ext e34;replace hD9:=hD9.ext e34;replace h10:=h10.ext e34;replace hD10:=hD10.ext e34;replace h11:=h11.ext e34;replace hD11:=hD11.ext e34;replace h12:=h12.ext e34;replace hD12:=hD12.ext e34;replace h13:=h13.ext e34;replace hD13:=hD13.ext e34;replace h14:=h14.ext e34;replace h15:=h15.ext e34;replace hD14:=hD14.ext e34;replace h16:=h16.ext e34;replace h17:=h17.ext e34
  have z52:=e34.size
  refine Qa (Qo Q7 Z h9.at Z) Z (Qa (Qo Q7 Z h7.at Z) Z (Qa (Qo Xh Z h8.at Z) Z (Qv Tryz.call19 Z (s_Received [o42,o43,o44,o45,o46,o47,o48,o49] dx3 dx4 _ (Dat.R.any hD7) (by first | omega | (simp;done))) Z (fun _ w53 e35 ho24=>?_))))
  obtain ⟨_,rfl,ho24⟩:=ho24
  have g_ho24 : w.heap.size ≤ w52.heap.size:=E.size
  replace E:=E.trans e35;replace hD1:=hD1.ext e35;replace hD2:=hD2.ext e35;replace h1:=h1.ext e35;replace h2:=h2.ext e35;replace hD3:=hD3.ext e35;replace h3:=h3.ext e35;replace hD4:=hD4.ext e35;replace h4:=h4.ext e35;replace hD5:=hD5.ext e35;replace h5:=h5.ext e35;replace hD6:=hD6.ext e35;replace h6:=h6.ext e35;replace hD7:=hD7.ext e35;replace h7:=h7.ext e35;replace h8:=h8.ext e35;replace hD8:=hD8.ext e35;replace h9:=h9.ext e35;replace hD9:=hD9.ext e35;replace h10:=h10.ext e35;replace hD10:=hD10.ext e35;replace h11:=h11.ext e35;replace hD11:=hD11.ext e35;replace h12:=h12.ext e35;replace hD12:=hD12.ext e35;replace h13:=h13.ext e35;replace hD13:=hD13.ext e35;replace h14:=h14.ext e35;replace h15:=h15.ext e35;replace hD14:=hD14.ext e35;replace h16:=h16.ext e35;replace h17:=h17.ext e35
  have z53:=e35.size
  have hD15:=Own1.rd ho24
  obtain ⟨o106,o107,o108,o109,o110,o111,o112,o113,rfl,_,_,_,_,_,_,_,_⟩:=Worker.op hD15
  clear ho24
  refine Qv Tryz.call10 Z (l_sameWorker [o50,o51,o52,o53,o54,o55,o56,o57] (Ut dx3 dx4) [o106,o107,o108,o109,o110,o111,o112,o113] (Ut dx3 dx4) _ (Dat.R.any hD8) (Dat.R.any hD15)) Z (fun _ w54 e36 hv=>?_)
  subst hv
  replace E:=E.trans e36;replace hD1:=hD1.ext e36;replace hD2:=hD2.ext e36;replace h1:=h1.ext e36;replace h2:=h2.ext e36;replace hD3:=hD3.ext e36;replace h3:=h3.ext e36;replace hD4:=hD4.ext e36;replace h4:=h4.ext e36;replace hD5:=hD5.ext e36;replace h5:=h5.ext e36;replace hD6:=hD6.ext e36;replace h6:=h6.ext e36;replace hD7:=hD7.ext e36;replace h7:=h7.ext e36;replace h8:=h8.ext e36;replace hD8:=hD8.ext e36;replace h9:=h9.ext e36;replace hD9:=hD9.ext e36;replace h10:=h10.ext e36;replace hD10:=hD10.ext e36;replace h11:=h11.ext e36;replace hD11:=hD11.ext e36;replace h12:=h12.ext e36;replace hD12:=hD12.ext e36;replace h13:=h13.ext e36;replace hD13:=hD13.ext e36;replace h14:=h14.ext e36;replace h15:=h15.ext e36;replace hD14:=hD14.ext e36;replace h16:=h16.ext e36;replace h17:=h17.ext e36;replace hD15:=hD15.ext e36
  have z54:=e36.size
  refine Qa (Y1 Z) Z (Qa (Qe Z) Z (Xg 38 [(2,.bool false),(3,.pointer (some ⟨b1,0,none⟩)),(4,.pointer (some ⟨b2,0,none⟩)),(5,.pointer (some ⟨b3,0,none⟩)),(6,.bool ((Q2 dx1 dx2).2)),(9,.pointer (some ⟨b5,0,none⟩)),(10,.bool ((Yd dx1 dx2).2)),(13,.pointer (some ⟨b7,0,none⟩)),(14,.pointer (some ⟨b8,0,none⟩)),(15,.pointer (some ⟨b9,0,none⟩)),(16,.pointer (some ⟨b10,0,none⟩)),(17,.pointer (some ⟨b11,0,none⟩)),(18,.int .i64 dx6),(19,.pointer (some ⟨b12,0,none⟩)),(20,.pointer (some ⟨b13,0,none⟩)),(21,.pointer (some ⟨b14,0,none⟩)),(22,.pointer (some ⟨b15,0,none⟩)),(23,.bool ((Xa dx7).2.2)),(24,.pointer (some ⟨b16,0,none⟩)),(25,.pointer (some ⟨b17,0,none⟩)),(26,.bool ((Xa dx7).2.2)),(99,.tuple [.agg [o90,o91,o92,o93,o94,o95,o96,o97].toArray,.agg (Enc.enc ((Xa dx7).2.1)).toArray,.bool ((Xa dx7).2.2)].toArray),(100,.agg [o82,o83,o84,o85,o86,o87,o88,o89].toArray),(101,.tuple [.agg [o90,o91,o92,o93,o94,o95,o96,o97].toArray,.agg (Enc.enc ((Xa dx7).2.1)).toArray,.bool ((Xa dx7).2.2)].toArray),(102,.agg [o90,o91,o92,o93,o94,o95,o96,o97].toArray),(103,.agg (Enc.enc ((Xa dx7).2.1)).toArray),(104,.bool ((Xa dx7).2.2)),(105,.tuple [.agg [o98,o99,o100,o101,o102,o103,o104,o105].toArray,.agg (Enc.enc ((Xa dx7).2.1)).toArray,.bool ((Xa dx7).2.2)].toArray),(106,.agg [o82,o83,o84,o85,o86,o87,o88,o89].toArray),(107,.tuple [.agg [o98,o99,o100,o101,o102,o103,o104,o105].toArray,.agg (Enc.enc ((Xa dx7).2.1)).toArray,.bool ((Xa dx7).2.2)].toArray),(108,.agg [o98,o99,o100,o101,o102,o103,o104,o105].toArray),(109,.agg (Enc.enc ((Xa dx7).2.1)).toArray),(110,.bool ((Xa dx7).2.2)),(155,.bool (((((((!(decide ((Ut dx3 dx4) = Ut dx3 dx4))) || (!(decide ((Yz dx3 dx4) = Yz dx3 dx4)))) || (!(decide ((Ga dx5 dx6) = Ga dx5 dx6)))) || (!(decide (((Xa dx7).2.1) = ((Xa dx7).2.1))))) || (!(((Xa dx7).2.2) == ((Xa dx7).2.2)))) || (!(decide (((Xa dx7).1) = ((Xa dx7).1))))) || (!((Ky dx7) == (Ky dx7)))))] (fun w'=>Ext w w' ∧ w54.heap.size ≤ w'.heap.size ∧ Dat.R w' w1.heap.size w2.heap.size [o1,.int .i64 dx1.workers,.int .i64 dx1.cap] dx1 ∧ Dat.R w' w1.heap.size w2.heap.size [o2,o3,o4,o5,o6,o7,o8,o9] dx2 ∧ Blk w' b1 [o1,.int .i64 dx1.workers,.int .i64 dx1.cap] ∧ Blk w' b2 [o2,o3,o4,o5,o6,o7,o8,o9] ∧ Dat.R w' w6.heap.size w7.heap.size [o10,o11,o12,o13,o14,o15,o16,o17] ((Q2 dx1 dx2).1) ∧ Blk w' b3 [o10,o11,o12,o13,o14,o15,o16,o17] ∧ Dat.R w' w9.heap.size w10.heap.size [o18,o19,o20,o21,o22,o23,o24,o25] ((Q2 dx1 dx2).1) ∧ Blk w' b4 [o18,o19,o20,o21,o22,o23,o24,o25] ∧ Dat.R w' w12.heap.size w13.heap.size [o26,o27,o28,o29,o30,o31,o32,o33] ((Yd dx1 dx2).1) ∧ Blk w' b5 [o26,o27,o28,o29,o30,o31,o32,o33] ∧ Dat.R w' w15.heap.size w16.heap.size [o34,o35,o36,o37,o38,o39,o40,o41] ((Yd dx1 dx2).1) ∧ Blk w' b6 [o34,o35,o36,o37,o38,o39,o40,o41] ∧ Dat.R w' w19.heap.size w22.heap.size [o42,o43,o44,o45,o46,o47,o48,o49] dx3 ∧ Blk w' b7 [o42,o43,o44,o45,o46,o47,o48,o49] ∧ Blk w' b8 [.int .i64 dx4.op,.int .i64 dx4.stamp.epoch,.int .i64 dx4.stamp.turn,.int .i64 dx4.key,.int .i64 dx4.val] ∧ Dat.R w' w26.heap.size w27.heap.size [o50,o51,o52,o53,o54,o55,o56,o57] (Ut dx3 dx4) ∧ Blk w' b9 [o50,o51,o52,o53,o54,o55,o56,o57] ∧ Dat.R w' w29.heap.size w30.heap.size [o58,o59,o60,o61,o62,o63,o64,o65] (Yz dx3 dx4) ∧ Blk w' b10 [o58,o59,o60,o61,o62,o63,o64,o65] ∧ Dat.R w' w32.heap.size w33.heap.size [o66,o67,o68,o69,o70,o71,o72,o73] dx5 ∧ Blk w' b11 [o66,o67,o68,o69,o70,o71,o72,o73] ∧ Dat.R w' w35.heap.size w36.heap.size [o74,o75,o76,o77,o78,o79,o80,o81] (Ga dx5 dx6) ∧ Blk w' b12 [o74,o75,o76,o77,o78,o79,o80,o81] ∧ Dat.R w' w38.heap.size w39.heap.size [o82,o83,o84,o85,o86,o87,o88,o89] dx7 ∧ Blk w' b13 [o82,o83,o84,o85,o86,o87,o88,o89] ∧ Dat.R w' w41.heap.size w42.heap.size [o90,o91,o92,o93,o94,o95,o96,o97] ((Xa dx7).1) ∧ Blk w' b14 [o90,o91,o92,o93,o94,o95,o96,o97] ∧ Blk w' b15 [.int .i64 (((Xa dx7).2.1).op),.int .i64 ((((Xa dx7).2.1).stamp).epoch),.int .i64 ((((Xa dx7).2.1).stamp).turn),.int .i64 (((Xa dx7).2.1).key),.int .i64 (((Xa dx7).2.1).val)] ∧ Dat.R w' w46.heap.size w47.heap.size [o98,o99,o100,o101,o102,o103,o104,o105] ((Xa dx7).1) ∧ Blk w' b16 [o98,o99,o100,o101,o102,o103,o104,o105] ∧ Blk w' b17 [.int .i64 (((Xa dx7).2.1).op),.int .i64 ((((Xa dx7).2.1).stamp).epoch),.int .i64 ((((Xa dx7).2.1).stamp).turn),.int .i64 (((Xa dx7).2.1).key),.int .i64 (((Xa dx7).2.1).val)] ∧ Dat.R w' w52.heap.size w53.heap.size [o106,o107,o108,o109,o110,o111,o112,o113] (Ut dx3 dx4)) ?_ ?_))
  ·refine Ym (gd:=117) Z Z (fun hg4=>?_) (fun hg4=>?_)
   ·exact absurd hg4 (by first | (simp;done) | (simp only [Qp] <;> simp) | (simp only [Qt,Qp] <;> simp) | (simp only [Qt] <;> simp))
   ·refine Qk Z Z (Qo Q7 Z h10.at Z) Z (Qk Z Z (Qo Q7 Z h7.at Z) Z (Qk Z Z (Qo Xh Z h8.at Z) Z ?_))
    refine Y3 Z Z ?_
    refine Qv Tryz.call20 Z (s_Kept [o42,o43,o44,o45,o46,o47,o48,o49] dx3 dx4 _ (Dat.R.any hD7) (by first | omega | (simp;done))) Z (fun _ w56 e37 ho25=>?_)
    obtain ⟨_,rfl,ho25⟩:=ho25
    have g_ho25 : w.heap.size ≤ w54.heap.size:=E.size
    replace E:=E.trans e37;replace hD1:=hD1.ext e37;replace hD2:=hD2.ext e37;replace h1:=h1.ext e37;replace h2:=h2.ext e37;replace hD3:=hD3.ext e37;replace h3:=h3.ext e37;replace hD4:=hD4.ext e37;replace h4:=h4.ext e37;replace hD5:=hD5.ext e37;replace h5:=h5.ext e37;replace hD6:=hD6.ext e37;replace h6:=h6.ext e37;replace hD7:=hD7.ext e37;replace h7:=h7.ext e37;replace h8:=h8.ext e37;replace hD8:=hD8.ext e37;replace h9:=h9.ext e37;replace hD9:=hD9.ext e37;replace h10:=h10.ext e37;replace hD10:=hD10.ext e37;replace h11:=h11.ext e37;replace hD11:=hD11.ext e37;replace h12:=h12.ext e37;replace hD12:=hD12.ext e37;replace h13:=h13.ext e37;replace hD13:=hD13.ext e37;replace h14:=h14.ext e37;replace h15:=h15.ext e37;replace hD14:=hD14.ext e37;replace h16:=h16.ext e37;replace h17:=h17.ext e37;replace hD15:=hD15.ext e37
    have z55:=e37.size
    have hD16:=Own1.rd ho25
    obtain ⟨o114,o115,o116,o117,o118,o119,o120,o121,rfl,_,_,_,_,_,_,_,_⟩:=Worker.op hD16
    clear ho25
    refine Y3 Z Z ?_
    refine Qv Tryz.call10 Z (l_sameWorker [o58,o59,o60,o61,o62,o63,o64,o65] (Yz dx3 dx4) [o114,o115,o116,o117,o118,o119,o120,o121] (Yz dx3 dx4) _ (Dat.R.any hD9) (Dat.R.any hD16)) Z (fun _ w57 e38 hv=>?_)
    subst hv
    replace E:=E.trans e38;replace hD1:=hD1.ext e38;replace hD2:=hD2.ext e38;replace h1:=h1.ext e38;replace h2:=h2.ext e38;replace hD3:=hD3.ext e38;replace h3:=h3.ext e38;replace hD4:=hD4.ext e38;replace h4:=h4.ext e38;replace hD5:=hD5.ext e38;replace h5:=h5.ext e38;replace hD6:=hD6.ext e38;replace h6:=h6.ext e38;replace hD7:=hD7.ext e38;replace h7:=h7.ext e38;replace h8:=h8.ext e38;replace hD8:=hD8.ext e38;replace h9:=h9.ext e38;replace hD9:=hD9.ext e38;replace h10:=h10.ext e38;replace hD10:=hD10.ext e38;replace h11:=h11.ext e38;replace hD11:=hD11.ext e38;replace h12:=h12.ext e38;replace hD12:=hD12.ext e38;replace h13:=h13.ext e38;replace hD13:=hD13.ext e38;replace h14:=h14.ext e38;replace h15:=h15.ext e38;replace hD14:=hD14.ext e38;replace h16:=h16.ext e38;replace h17:=h17.ext e38;replace hD15:=hD15.ext e38;replace hD16:=hD16.ext e38
    have z56:=e38.size
    refine Qk Z Z (Y1 Z) Z (Qa (Qq Z Z) Z (Qa (Qe Z) Z ?_))
    refine Ym (gd:=125) Z Z (fun hg5=>?_) (fun hg5=>?_)
    ·exact absurd hg5 (by first | (simp;done) | (simp only [Qp] <;> simp) | (simp only [Qt,Qp] <;> simp) | (simp only [Qt] <;> simp))
    ·refine Qk Z Z (Qo Q7 Z h12.at Z) Z (Qk Z Z (Qo Q7 Z h11.at Z) Z (Qk Z Z (Qe Z) Z ?_))
     refine Y3 Z Z ?_
     refine Qv Tryz.call21 Z (s_SentAway [o66,o67,o68,o69,o70,o71,o72,o73] dx5 dx6 _ (Dat.R.any hD10) (by first | omega | (simp;done))) Z (fun _ w58 e39 ho26=>?_)
     obtain ⟨_,rfl,ho26⟩:=ho26
     have g_ho26 : w.heap.size ≤ w57.heap.size:=E.size
     replace E:=E.trans e39;replace hD1:=hD1.ext e39;replace hD2:=hD2.ext e39;replace h1:=h1.ext e39;replace h2:=h2.ext e39;replace hD3:=hD3.ext e39;replace h3:=h3.ext e39;replace hD4:=hD4.ext e39;replace h4:=h4.ext e39;replace hD5:=hD5.ext e39;replace h5:=h5.ext e39;replace hD6:=hD6.ext e39;replace h6:=h6.ext e39;replace hD7:=hD7.ext e39;replace h7:=h7.ext e39;replace h8:=h8.ext e39;replace hD8:=hD8.ext e39;replace h9:=h9.ext e39;replace hD9:=hD9.ext e39;replace h10:=h10.ext e39;replace hD10:=hD10.ext e39;replace h11:=h11.ext e39;replace hD11:=hD11.ext e39;replace h12:=h12.ext e39;replace hD12:=hD12.ext e39;replace h13:=h13.ext e39;replace hD13:=hD13.ext e39;replace h14:=h14.ext e39;replace h15:=h15.ext e39;replace hD14:=hD14.ext e39;replace h16:=h16.ext e39;replace h17:=h17.ext e39;replace hD15:=hD15.ext e39;replace hD16:=hD16.ext e39
     have z57:=e39.size
     have hD17:=Own1.rd ho26
     obtain ⟨o122,o123,o124,o125,o126,o127,o128,o129,rfl,_,_,_,_,_,_,_,_⟩:=Worker.op hD17
     clear ho26
     refine Y3 Z Z ?_
     refine Qv Tryz.call10 Z (l_sameWorker [o74,o75,o76,o77,o78,o79,o80,o81] (Ga dx5 dx6) [o122,o123,o124,o125,o126,o127,o128,o129] (Ga dx5 dx6) _ (Dat.R.any hD11) (Dat.R.any hD17)) Z (fun _ w59 e40 hv=>?_)
     subst hv
     replace E:=E.trans e40;replace hD1:=hD1.ext e40;replace hD2:=hD2.ext e40;replace h1:=h1.ext e40;replace h2:=h2.ext e40;replace hD3:=hD3.ext e40;replace h3:=h3.ext e40;replace hD4:=hD4.ext e40;replace h4:=h4.ext e40;replace hD5:=hD5.ext e40;replace h5:=h5.ext e40;replace hD6:=hD6.ext e40;replace h6:=h6.ext e40;replace hD7:=hD7.ext e40;replace h7:=h7.ext e40;replace h8:=h8.ext e40;replace hD8:=hD8.ext e40;replace h9:=h9.ext e40;replace hD9:=hD9.ext e40;replace h10:=h10.ext e40;replace hD10:=hD10.ext e40;replace h11:=h11.ext e40;replace hD11:=hD11.ext e40;replace h12:=h12.ext e40;replace hD12:=hD12.ext e40;replace h13:=h13.ext e40;replace hD13:=hD13.ext e40;replace h14:=h14.ext e40;replace h15:=h15.ext e40;replace hD14:=hD14.ext e40;replace h16:=h16.ext e40;replace h17:=h17.ext e40;replace hD15:=hD15.ext e40;replace hD16:=hD16.ext e40;replace hD17:=hD17.ext e40
     have z58:=e40.size
     refine Qk Z Z (Y1 Z) Z (Qa (Qq Z Z) Z (Qa (Qe Z) Z ?_))
     refine Ym (gd:=133) Z Z (fun hg6=>?_) (fun hg6=>?_)
     ·exact absurd hg6 (by first | (simp;done) | (simp only [Qp] <;> simp) | (simp only [Qt,Qp] <;> simp) | (simp only [Qt] <;> simp))
     ·refine Qk Z Z (Qo Xh Z h15.at Z) Z (Qk Z Z (Qo Xh Z h17.at Z) Z (Qk Z Z (R_neqS (ne42 ((Xa dx7).2.1) ((Xa dx7).2.1)) eqg42 Z Z) Z (Qa (Qq Z Z) Z (Qa (Qe Z) Z ?_))))
      refine Ym (gd:=138) Z Z (fun hg7=>?_) (fun hg7=>?_)
      ·exact absurd hg7 (by first | (simp;done) | (simp only [Qp] <;> simp) | (simp only [Qt,Qp] <;> simp) | (simp only [Qt] <;> simp))
      ·refine Qk Z Z (Qe Z) Z (Qk Z Z (Qe Z) Z (Qk Z Z (H3 (Tryz.underlying4) Z Z) Z (Qa (Qq Z Z) Z (Qa (Qe Z) Z ?_))))
       refine Ym (gd:=143) Z Z (fun hg8=>?_) (fun hg8=>?_)
       ·exact absurd hg8 (by first | (simp;done) | (simp only [Qp] <;> simp) | (simp only [Qt,Qp] <;> simp) | (simp only [Qt] <;> simp))
       ·refine Qk Z Z (Qo Q7 Z h14.at Z) Z (Qk Z Z (Qo Q7 Z h16.at Z) Z ?_)
        refine Y3 Z Z ?_
        refine Qv Tryz.call10 Z (l_sameWorker [o90,o91,o92,o93,o94,o95,o96,o97] ((Xa dx7).1) [o98,o99,o100,o101,o102,o103,o104,o105] ((Xa dx7).1) _ (Dat.R.any hD13) (Dat.R.any hD14)) Z (fun _ w60 e41 hv=>?_)
        subst hv
        replace E:=E.trans e41;replace hD1:=hD1.ext e41;replace hD2:=hD2.ext e41;replace h1:=h1.ext e41;replace h2:=h2.ext e41;replace hD3:=hD3.ext e41;replace h3:=h3.ext e41;replace hD4:=hD4.ext e41;replace h4:=h4.ext e41;replace hD5:=hD5.ext e41;replace h5:=h5.ext e41;replace hD6:=hD6.ext e41;replace h6:=h6.ext e41;replace hD7:=hD7.ext e41;replace h7:=h7.ext e41;replace h8:=h8.ext e41;replace hD8:=hD8.ext e41;replace h9:=h9.ext e41;replace hD9:=hD9.ext e41;replace h10:=h10.ext e41;replace hD10:=hD10.ext e41;replace h11:=h11.ext e41;replace hD11:=hD11.ext e41;replace h12:=h12.ext e41;replace hD12:=hD12.ext e41;replace h13:=h13.ext e41;replace hD13:=hD13.ext e41;replace h14:=h14.ext e41;replace h15:=h15.ext e41;replace hD14:=hD14.ext e41;replace h16:=h16.ext e41;replace h17:=h17.ext e41;replace hD15:=hD15.ext e41;replace hD16:=hD16.ext e41;replace hD17:=hD17.ext e41
        have z59:=e41.size
        refine Qk Z Z (Y1 Z) Z (Qa (Qq Z Z) Z (Qa (Qe Z) Z ?_))
        refine Ym (gd:=149) Z Z (fun hg9=>?_) (fun hg9=>?_)
        ·exact absurd hg9 (by first | (simp;done) | (simp only [Qp] <;> simp) | (simp only [Qt,Qp] <;> simp) | (simp only [Qt] <;> simp))
        ·refine Qk Z Z (Qo Q7 Z h13.at Z) Z (Qk Z Z (Qo Q7 Z h13.at Z) Z ?_)
         refine Y3 Z Z ?_
         refine Qv Tryz.call22 Z (c_Idle [o82,o83,o84,o85,o86,o87,o88,o89] dx7 _ (Dat.R.any hD12) (by first | omega | (simp;done))) Z (fun _ w61 e42 hv=>?_)
         subst hv
         replace E:=E.trans e42;replace hD1:=hD1.ext e42;replace hD2:=hD2.ext e42;replace h1:=h1.ext e42;replace h2:=h2.ext e42;replace hD3:=hD3.ext e42;replace h3:=h3.ext e42;replace hD4:=hD4.ext e42;replace h4:=h4.ext e42;replace hD5:=hD5.ext e42;replace h5:=h5.ext e42;replace hD6:=hD6.ext e42;replace h6:=h6.ext e42;replace hD7:=hD7.ext e42;replace h7:=h7.ext e42;replace h8:=h8.ext e42;replace hD8:=hD8.ext e42;replace h9:=h9.ext e42;replace hD9:=hD9.ext e42;replace h10:=h10.ext e42;replace hD10:=hD10.ext e42;replace h11:=h11.ext e42;replace hD11:=hD11.ext e42;replace h12:=h12.ext e42;replace hD12:=hD12.ext e42;replace h13:=h13.ext e42;replace hD13:=hD13.ext e42;replace h14:=h14.ext e42;replace h15:=h15.ext e42;replace hD14:=hD14.ext e42;replace h16:=h16.ext e42;replace h17:=h17.ext e42;replace hD15:=hD15.ext e42;replace hD16:=hD16.ext e42;replace hD17:=hD17.ext e42
         have z60:=e42.size
         refine Y3 Z Z ?_
         refine Qv Tryz.call23 Z (s_Idle [o82,o83,o84,o85,o86,o87,o88,o89] dx7 _ (Dat.R.any hD12)) Z (fun _ w62 e43 hv=>?_)
         subst hv
         replace E:=E.trans e43;replace hD1:=hD1.ext e43;replace hD2:=hD2.ext e43;replace h1:=h1.ext e43;replace h2:=h2.ext e43;replace hD3:=hD3.ext e43;replace h3:=h3.ext e43;replace hD4:=hD4.ext e43;replace h4:=h4.ext e43;replace hD5:=hD5.ext e43;replace h5:=h5.ext e43;replace hD6:=hD6.ext e43;replace h6:=h6.ext e43;replace hD7:=hD7.ext e43;replace h7:=h7.ext e43;replace h8:=h8.ext e43;replace hD8:=hD8.ext e43;replace h9:=h9.ext e43;replace hD9:=hD9.ext e43;replace h10:=h10.ext e43;replace hD10:=hD10.ext e43;replace h11:=h11.ext e43;replace hD11:=hD11.ext e43;replace h12:=h12.ext e43;replace hD12:=hD12.ext e43;replace h13:=h13.ext e43;replace hD13:=hD13.ext e43;replace h14:=h14.ext e43;replace h15:=h15.ext e43;replace hD14:=hD14.ext e43;replace h16:=h16.ext e43;replace h17:=h17.ext e43;replace hD15:=hD15.ext e43;replace hD16:=hD16.ext e43;replace hD17:=hD17.ext e43
         have z61:=e43.size
         refine Qk Z Z (H3 (Tryz.underlying4) Z Z) Z (Qa (Qq Z Z) Z (Ql ⟨Z,Z,Z,Z,Z,Z,Z,Z,Z,Z,Z,Z,Z,Z,Z,Z,Z,Z,Z,Z,Z,Z,Z,Z,Z,Z,Z,Z,Z,Z,Z,Z,Z,congrArg (fun b=>some (Value.bool b)) (show (!((Ky dx7) == (Ky dx7))) = (((((((!(decide ((Ut dx3 dx4) = Ut dx3 dx4))) || (!(decide ((Yz dx3 dx4) = Yz dx3 dx4)))) || (!(decide ((Ga dx5 dx6) = Ga dx5 dx6)))) || (!(decide (((Xa dx7).2.1) = ((Xa dx7).2.1))))) || (!(((Xa dx7).2.2) == ((Xa dx7).2.2)))) || (!(decide (((Xa dx7).1) = ((Xa dx7).1))))) || (!((Ky dx7) == (Ky dx7)))) by first | (rw [hg4,hg5,hg6,hg7,hg8,hg9] <;> rfl) | (simp [hg4,hg5,hg6,hg7,hg8,hg9];done) | (simp only [Qp] <;> simp)),trivial⟩ ⟨E,(by omega),hD1,hD2,h1,h2,hD3,h3,hD4,h4,hD5,h5,hD6,h6,hD7,h7,h8,hD8,h9,hD9,h10,hD10,h11,hD11,h12,hD12,h13,hD13,h14,h15,hD14,h16,h17,hD15⟩))
  clear E hD1 hD2 h1 h2 hD3 h3 hD4 h4 hD5 h5 hD6 h6 hD7 h7 h8 hD8 h9 hD9 h10 hD10 h11 hD11 h12 hD12 h13 hD13 h14 h15 hD14 h16 h17 hD15
  rintro w55 ⟨E,z62,hD1,hD2,h1,h2,hD3,h3,hD4,h4,hD5,h5,hD6,h6,hD7,h7,h8,hD8,h9,hD9,h10,hD10,h11,hD11,h12,hD12,h13,hD13,h14,h15,hD14,h16,h17,hD15⟩
  refine Qf (Aa Z (by first | (simp;done) | (simp only [Qp] <;> simp) | (simp only [Qt,Qp] <;> simp) | (simp only [Qt] <;> simp)) (Qy (Qh ?_)))
  clear hD4 h4 hD6 h6 h8 hD8 h9 hD10 h11 hD11 h12 hD12 h13 hD13 h14 h15 hD14 h16 h17 hD15
  refine Yh [(2,.bool false),(3,.pointer (some ⟨b1,0,none⟩)),(4,.pointer (some ⟨b2,0,none⟩)),(5,.pointer (some ⟨b3,0,none⟩)),(6,.bool ((Q2 dx1 dx2).2)),(9,.pointer (some ⟨b5,0,none⟩)),(10,.bool ((Yd dx1 dx2).2)),(13,.pointer (some ⟨b7,0,none⟩)),(16,.pointer (some ⟨b10,0,none⟩))] ⟨Z,Z,Z,Z,Z,Z,Z,Z,Z,trivial⟩ ?_
  refine Qi [true,true,true,true,true,true,true,true,true,true,true,true,true,true,false,true,true,true,true,true,true,true,true,true,true,true,true,true,true,true,true,true,true,true,true,true,true,true,true,true,true,true,false,true,true,true,true,true,true,true,true,true,true,true,true,true,false,false,true,true] Z Z (Qa (Qe Z) Z (Qa (Y1 Z) Z (Qa (Qe Z) Z (Xg 56 [(2,.bool false),(3,.pointer (some ⟨b1,0,none⟩)),(4,.pointer (some ⟨b2,0,none⟩)),(5,.pointer (some ⟨b3,0,none⟩)),(6,.bool ((Q2 dx1 dx2).2)),(9,.pointer (some ⟨b5,0,none⟩)),(10,.bool ((Yd dx1 dx2).2)),(13,.pointer (some ⟨b7,0,none⟩)),(16,.pointer (some ⟨b10,0,none⟩)),(214,.bool ((((((!((Q2 dx1 dx2).2)) || (((((((Q2 dx1 dx2).1).queue).length : Nat) : Int) == (IntKind.i64.wrap (((dx2.queue.length : Nat) : Int) - 1))) && (Yc dx1 ((Q2 dx1 dx2).1)))) && ((!((Yd dx1 dx2).2)) || (((((((Yd dx1 dx2).1).inputs).length : Nat) : Int) == (IntKind.i64.wrap (((dx2.inputs.length : Nat) : Int) - 1))) && ((((((Yd dx1 dx2).1).queue).length : Nat) : Int) == 1)))) && (((Q2 dx1 dx2).2) || (decide (((Q2 dx1 dx2).1) = dx2)))) && (((((Yz dx3 dx4).queue).length : Nat) : Int) == (IntKind.i64.wrap (((dx3.queue.length : Nat) : Int) + 1)))) && (Ky (Yi []))))] (fun w'=>Ext w w' ∧ w55.heap.size ≤ w'.heap.size ∧ Dat.R w' w1.heap.size w2.heap.size [o1,.int .i64 dx1.workers,.int .i64 dx1.cap] dx1 ∧ Dat.R w' w1.heap.size w2.heap.size [o2,o3,o4,o5,o6,o7,o8,o9] dx2 ∧ Blk w' b1 [o1,.int .i64 dx1.workers,.int .i64 dx1.cap] ∧ Blk w' b2 [o2,o3,o4,o5,o6,o7,o8,o9] ∧ Dat.R w' w6.heap.size w7.heap.size [o10,o11,o12,o13,o14,o15,o16,o17] ((Q2 dx1 dx2).1) ∧ Blk w' b3 [o10,o11,o12,o13,o14,o15,o16,o17] ∧ Dat.R w' w12.heap.size w13.heap.size [o26,o27,o28,o29,o30,o31,o32,o33] ((Yd dx1 dx2).1) ∧ Blk w' b5 [o26,o27,o28,o29,o30,o31,o32,o33] ∧ Dat.R w' w19.heap.size w22.heap.size [o42,o43,o44,o45,o46,o47,o48,o49] dx3 ∧ Blk w' b7 [o42,o43,o44,o45,o46,o47,o48,o49] ∧ Dat.R w' w29.heap.size w30.heap.size [o58,o59,o60,o61,o62,o63,o64,o65] (Yz dx3 dx4) ∧ Blk w' b10 [o58,o59,o60,o61,o62,o63,o64,o65]) ?_ ?_))))
  ·refine Ym (gd:=158) Z Z (fun hg10=>?_) (fun hg10=>?_)
   ·refine Qc Z Z Z Z (Qc Z Z Z Z (Qc Z Z Z Z (Qc Z Z Z Z (Qc Z Z Z Z (Qc Z Z Z Z (Qc Z Z Z Z (Qc Z Z Z Z (Qc Z Z Z Z (Q3 Z Z Z (Q3 Z Z Z ?_))))))))))
    refine H4 Z Z Z ?_
    refine Qc Z Z Z Z (Qa (Qr Z Z) Z (Qa (Qe Z) Z (Qk Z Z (Qe Z) Z (Qk Z Z (Y1 Z) Z (Qk Z Z (Qe Z) Z ?_)))))
    refine Ym (gd:=176) Z Z (fun hg11=>?_) (fun hg11=>?_)
    ·refine Qc Z Z Z Z (Qc Z Z Z Z (Qc Z Z Z Z (Qc Z Z Z Z (Qc Z Z Z Z (Qc Z Z Z Z (Qc Z Z Z Z (Qc Z Z Z Z (Qc Z Z Z Z (Q3 Z Z Z (Q3 Z Z Z (Q3 Z Z Z (Q3 Z Z Z (Qc Z Z Z Z (Qk Z Z (Qr Z Z) Z (Qa (Qr Z Z) Z (Qa (Qe Z) Z (Qk Z Z (Qe Z) Z (Qk Z Z (Qe Z) Z ?_))))))))))))))))))
     refine Ym (gd:=195) Z Z (fun hg12=>?_) (fun hg12=>?_)
     ·refine Qc Z Z Z Z (Qc Z Z Z Z ?_)
      refine Q1 Z Z Z Z ?_
      refine Qk Z Z (Qr Z Z) Z (Qa (Qr Z Z) Z (Qa (Qe Z) Z (Qk Z Z (Qd Xj Z) Z (Qk Z Z (Qj Xi Z (h10.one 0 Z)) Z (Qk Z Z (Yg Tryz.underlying27 Z (Worker.opD hD9).1.len) Z (Qk Z Z (Qd Xj Z) Z (Qk Z Z (Qj Xi Z (h7.one 0 Z)) Z (Qk Z Z (Yg Tryz.underlying27 Z (Worker.opD hD7).1.len) Z (Qk Z Z (Yw Z Z Z) Z (Qk Z Z (Yq Z Z) Z (Qa (Qr Z Z) Z (Qa (Qe Z) Z ?_))))))))))))
      refine Ym (gd:=211) Z Z (fun hg13=>?_) (fun hg13=>?_)
      ·refine Y3 Z Z ?_
       refine Qv Tryz.call25 Z (s_WorkerNew (.slice none 0 0) [] _ (RdS.nil _) (by first | omega | (simp;done))) Z (fun _ w64 e44 ho27=>?_)
       obtain ⟨_,rfl,ho27⟩:=ho27
       have g_ho27 : w.heap.size ≤ w55.heap.size:=E.size
       replace E:=E.trans e44;replace hD1:=hD1.ext e44;replace hD2:=hD2.ext e44;replace h1:=h1.ext e44;replace h2:=h2.ext e44;replace hD3:=hD3.ext e44;replace h3:=h3.ext e44;replace hD5:=hD5.ext e44;replace h5:=h5.ext e44;replace hD7:=hD7.ext e44;replace h7:=h7.ext e44;replace hD9:=hD9.ext e44;replace h10:=h10.ext e44
       have z63:=e44.size
       have hD18:=Own1.rd ho27
       obtain ⟨o130,o131,o132,o133,o134,o135,o136,o137,rfl,_,_,_,_,_,_,_,_⟩:=Worker.op hD18
       clear ho27
       refine Y3 Z Z ?_
       refine Qv Tryz.call22 Z (c_Idle [o130,o131,o132,o133,o134,o135,o136,o137] (Yi []) _ (Dat.R.any hD18) (by rw [V2];exact Nat.le_of_ble_eq_true Z)) Z (fun _ w65 e45 hv=>?_)
       subst hv
       replace E:=E.trans e45;replace hD1:=hD1.ext e45;replace hD2:=hD2.ext e45;replace h1:=h1.ext e45;replace h2:=h2.ext e45;replace hD3:=hD3.ext e45;replace h3:=h3.ext e45;replace hD5:=hD5.ext e45;replace h5:=h5.ext e45;replace hD7:=hD7.ext e45;replace h7:=h7.ext e45;replace hD9:=hD9.ext e45;replace h10:=h10.ext e45;replace hD18:=hD18.ext e45
       have z64:=e45.size
       refine Qa (Qr Z Z) Z (Ql ⟨Z,Z,Z,Z,Z,Z,Z,Z,Z,congrArg (fun b=>some (Value.bool b)) (show (Ky (Yi [])) = ((((((!((Q2 dx1 dx2).2)) || (((((((Q2 dx1 dx2).1).queue).length : Nat) : Int) == (IntKind.i64.wrap (((dx2.queue.length : Nat) : Int) - 1))) && (Yc dx1 ((Q2 dx1 dx2).1)))) && ((!((Yd dx1 dx2).2)) || (((((((Yd dx1 dx2).1).inputs).length : Nat) : Int) == (IntKind.i64.wrap (((dx2.inputs.length : Nat) : Int) - 1))) && ((((((Yd dx1 dx2).1).queue).length : Nat) : Int) == 1)))) && (((Q2 dx1 dx2).2) || (decide (((Q2 dx1 dx2).1) = dx2)))) && (((((Yz dx3 dx4).queue).length : Nat) : Int) == (IntKind.i64.wrap (((dx3.queue.length : Nat) : Int) + 1)))) && (Ky (Yi []))) by first | (rw [hg10,hg11,hg12,hg13] <;> rfl) | (simp [hg10,hg11,hg12,hg13];done) | (simp only [Qp] <;> simp)),trivial⟩ ⟨E,(by omega),hD1,hD2,h1,h2,hD3,h3,hD5,h5,hD7,h7,hD9,h10⟩)
      ·refine Q1 Z Z Z Z ?_
       refine Q1 Z Z Z Z ?_
       refine Qa (Qq Z Z) Z (Ql ⟨Z,Z,Z,Z,Z,Z,Z,Z,Z,congrArg (fun b=>some (Value.bool b)) (show false = ((((((!((Q2 dx1 dx2).2)) || (((((((Q2 dx1 dx2).1).queue).length : Nat) : Int) == (IntKind.i64.wrap (((dx2.queue.length : Nat) : Int) - 1))) && (Yc dx1 ((Q2 dx1 dx2).1)))) && ((!((Yd dx1 dx2).2)) || (((((((Yd dx1 dx2).1).inputs).length : Nat) : Int) == (IntKind.i64.wrap (((dx2.inputs.length : Nat) : Int) - 1))) && ((((((Yd dx1 dx2).1).queue).length : Nat) : Int) == 1)))) && (((Q2 dx1 dx2).2) || (decide (((Q2 dx1 dx2).1) = dx2)))) && (((((Yz dx3 dx4).queue).length : Nat) : Int) == (IntKind.i64.wrap (((dx3.queue.length : Nat) : Int) + 1)))) && (Ky (Yi []))) by first | (rw [hg10,hg11,hg12,hg13] <;> rfl) | (simp [hg10,hg11,hg12,hg13];done) | (simp only [Qp] <;> simp)),trivial⟩ ⟨E,(by omega),hD1,hD2,h1,h2,hD3,h3,hD5,h5,hD7,h7,hD9,h10⟩)
     ·refine Qk Z Z (Qo Q7 Z h3.at Z) Z (Qk Z Z (Qo Q7 Z h2.at Z) Z ?_)
      refine Y3 Z Z ?_
      refine Qv Tryz.call10 Z (l_sameWorker [o10,o11,o12,o13,o14,o15,o16,o17] ((Q2 dx1 dx2).1) [o2,o3,o4,o5,o6,o7,o8,o9] dx2 _ (Dat.R.any hD3) (Dat.R.any hD2)) Z (fun _ w66 e46 hv=>?_)
      subst hv
      replace E:=E.trans e46;replace hD1:=hD1.ext e46;replace hD2:=hD2.ext e46;replace h1:=h1.ext e46;replace h2:=h2.ext e46;replace hD3:=hD3.ext e46;replace h3:=h3.ext e46;replace hD5:=hD5.ext e46;replace h5:=h5.ext e46;replace hD7:=hD7.ext e46;replace h7:=h7.ext e46;replace hD9:=hD9.ext e46;replace h10:=h10.ext e46
      have z65:=e46.size
      refine Qk Z Z (Qq Z Z) Z (Qa (Qr Z Z) Z (Qa (Qe Z) Z ?_))
      refine Ym (gd:=201) Z Z (fun hg14=>?_) (fun hg14=>?_)
      ·refine Qk Z Z (Qd Xj Z) Z (Qk Z Z (Qj Xi Z (h10.one 0 Z)) Z (Qk Z Z (Yg Tryz.underlying27 Z (Worker.opD hD9).1.len) Z (Qk Z Z (Qd Xj Z) Z (Qk Z Z (Qj Xi Z (h7.one 0 Z)) Z (Qk Z Z (Yg Tryz.underlying27 Z (Worker.opD hD7).1.len) Z (Qk Z Z (Yw Z Z Z) Z (Qk Z Z (Yq Z Z) Z (Qa (Qr Z Z) Z (Qa (Qe Z) Z ?_)))))))))
       refine Ym (gd:=211) Z Z (fun hg15=>?_) (fun hg15=>?_)
       ·refine Y3 Z Z ?_
        refine Qv Tryz.call25 Z (s_WorkerNew (.slice none 0 0) [] _ (RdS.nil _) (by first | omega | (simp;done))) Z (fun _ w67 e47 ho28=>?_)
        obtain ⟨_,rfl,ho28⟩:=ho28
        have g_ho28 : w.heap.size ≤ w66.heap.size:=E.size
        replace E:=E.trans e47;replace hD1:=hD1.ext e47;replace hD2:=hD2.ext e47;replace h1:=h1.ext e47;replace h2:=h2.ext e47;replace hD3:=hD3.ext e47;replace h3:=h3.ext e47;replace hD5:=hD5.ext e47;replace h5:=h5.ext e47;replace hD7:=hD7.ext e47;replace h7:=h7.ext e47;replace hD9:=hD9.ext e47;replace h10:=h10.ext e47
        have z66:=e47.size
        have hD19:=Own1.rd ho28
        obtain ⟨o138,o139,o140,o141,o142,o143,o144,o145,rfl,_,_,_,_,_,_,_,_⟩:=Worker.op hD19
        clear ho28
        refine Y3 Z Z ?_
        refine Qv Tryz.call22 Z (c_Idle [o138,o139,o140,o141,o142,o143,o144,o145] (Yi []) _ (Dat.R.any hD19) (by rw [V2];exact Nat.le_of_ble_eq_true Z)) Z (fun _ w68 e48 hv=>?_)
        subst hv
        replace E:=E.trans e48;replace hD1:=hD1.ext e48;replace hD2:=hD2.ext e48;replace h1:=h1.ext e48;replace h2:=h2.ext e48;replace hD3:=hD3.ext e48;replace h3:=h3.ext e48;replace hD5:=hD5.ext e48;replace h5:=h5.ext e48;replace hD7:=hD7.ext e48;replace h7:=h7.ext e48;replace hD9:=hD9.ext e48;replace h10:=h10.ext e48;replace hD19:=hD19.ext e48
        have z67:=e48.size
        refine Qa (Qr Z Z) Z (Ql ⟨Z,Z,Z,Z,Z,Z,Z,Z,Z,congrArg (fun b=>some (Value.bool b)) (show (Ky (Yi [])) = ((((((!((Q2 dx1 dx2).2)) || (((((((Q2 dx1 dx2).1).queue).length : Nat) : Int) == (IntKind.i64.wrap (((dx2.queue.length : Nat) : Int) - 1))) && (Yc dx1 ((Q2 dx1 dx2).1)))) && ((!((Yd dx1 dx2).2)) || (((((((Yd dx1 dx2).1).inputs).length : Nat) : Int) == (IntKind.i64.wrap (((dx2.inputs.length : Nat) : Int) - 1))) && ((((((Yd dx1 dx2).1).queue).length : Nat) : Int) == 1)))) && (((Q2 dx1 dx2).2) || (decide (((Q2 dx1 dx2).1) = dx2)))) && (((((Yz dx3 dx4).queue).length : Nat) : Int) == (IntKind.i64.wrap (((dx3.queue.length : Nat) : Int) + 1)))) && (Ky (Yi []))) by first | (rw [hg10,hg11,hg12,hg14,hg15] <;> rfl) | (simp [hg10,hg11,hg12,hg14,hg15];done) | (simp only [Qp] <;> simp)),trivial⟩ ⟨E,(by omega),hD1,hD2,h1,h2,hD3,h3,hD5,h5,hD7,h7,hD9,h10⟩)
       ·refine Q1 Z Z Z Z ?_
        refine Q1 Z Z Z Z ?_
        refine Qa (Qq Z Z) Z (Ql ⟨Z,Z,Z,Z,Z,Z,Z,Z,Z,congrArg (fun b=>some (Value.bool b)) (show false = ((((((!((Q2 dx1 dx2).2)) || (((((((Q2 dx1 dx2).1).queue).length : Nat) : Int) == (IntKind.i64.wrap (((dx2.queue.length : Nat) : Int) - 1))) && (Yc dx1 ((Q2 dx1 dx2).1)))) && ((!((Yd dx1 dx2).2)) || (((((((Yd dx1 dx2).1).inputs).length : Nat) : Int) == (IntKind.i64.wrap (((dx2.inputs.length : Nat) : Int) - 1))) && ((((((Yd dx1 dx2).1).queue).length : Nat) : Int) == 1)))) && (((Q2 dx1 dx2).2) || (decide (((Q2 dx1 dx2).1) = dx2)))) && (((((Yz dx3 dx4).queue).length : Nat) : Int) == (IntKind.i64.wrap (((dx3.queue.length : Nat) : Int) + 1)))) && (Ky (Yi []))) by first | (rw [hg10,hg11,hg12,hg14,hg15] <;> rfl) | (simp [hg10,hg11,hg12,hg14,hg15];done) | (simp only [Qp] <;> simp)),trivial⟩ ⟨E,(by omega),hD1,hD2,h1,h2,hD3,h3,hD5,h5,hD7,h7,hD9,h10⟩)
      ·refine Qc Z Z Z Z (Qc Z Z Z Z (Qc Z Z Z Z (Qc Z Z Z Z (Qc Z Z Z Z (Qc Z Z Z Z (Qc Z Z Z Z (Qc Z Z Z Z (Qa (Qq Z Z) Z (Qa (Qe Z) Z ?_)))))))))
       refine Q1 Z Z Z Z ?_
       refine Q1 Z Z Z Z ?_
       refine Qa (Qq Z Z) Z (Ql ⟨Z,Z,Z,Z,Z,Z,Z,Z,Z,congrArg (fun b=>some (Value.bool b)) (show false = ((((((!((Q2 dx1 dx2).2)) || (((((((Q2 dx1 dx2).1).queue).length : Nat) : Int) == (IntKind.i64.wrap (((dx2.queue.length : Nat) : Int) - 1))) && (Yc dx1 ((Q2 dx1 dx2).1)))) && ((!((Yd dx1 dx2).2)) || (((((((Yd dx1 dx2).1).inputs).length : Nat) : Int) == (IntKind.i64.wrap (((dx2.inputs.length : Nat) : Int) - 1))) && ((((((Yd dx1 dx2).1).queue).length : Nat) : Int) == 1)))) && (((Q2 dx1 dx2).2) || (decide (((Q2 dx1 dx2).1) = dx2)))) && (((((Yz dx3 dx4).queue).length : Nat) : Int) == (IntKind.i64.wrap (((dx3.queue.length : Nat) : Int) + 1)))) && (Ky (Yi []))) by first | (rw [hg10,hg11,hg12,hg14] <;> rfl) | (simp [hg10,hg11,hg12,hg14];done) | (simp only [Qp] <;> simp)),trivial⟩ ⟨E,(by omega),hD1,hD2,h1,h2,hD3,h3,hD5,h5,hD7,h7,hD9,h10⟩)
    ·refine Qk Z Z (Qd Kc Z) Z (Qk Z Z (Qj Xi Z (h5.one 2 Z)) Z (Qk Z Z (Yg Tryz.underlying27 Z (Worker.opD hD5).2.2.1.len) Z (Qk Z Z (Qd Kc Z) Z (Qk Z Z (Qj Xi Z (h2.one 2 Z)) Z (Qk Z Z (Yg Tryz.underlying27 Z (Worker.opD hD2).2.2.1.len) Z (Qk Z Z (U5 Z Z Z) Z (Qk Z Z (Yq Z Z) Z (Qk Z Z (Qe Z) Z ?_))))))))
     refine Ym (gd:=185) Z Z (fun hg16=>?_) (fun hg16=>?_)
     ·refine Qk Z Z (Qd Xj Z) Z (Qk Z Z (Qj Xi Z (h5.one 0 Z)) Z (Qk Z Z (Yg Tryz.underlying27 Z (Worker.opD hD5).1.len) Z (Qk Z Z (Yq Z Z) Z (Qk Z Z (Qr Z Z) Z (Qk Z Z (Qq Z Z) Z (Qa (Qr Z Z) Z (Qa (Qe Z) Z ?_)))))))
      refine Ym (gd:=193) Z Z (fun hg17=>?_) (fun hg17=>?_)
      ·have hg17n : (((Yd dx1 dx2).1).queue).length = 1:=by first | (have h:=of_decide_eq_true hg17;omega) | (have h:=hg17;simp at h;omega)
       refine Qk Z Z (Qe Z) Z (Qk Z Z (Qe Z) Z ?_)
       refine Ym (gd:=195) Z Z (fun hg18=>?_) (fun hg18=>?_)
       ·refine Qc Z Z Z Z (Qc Z Z Z Z ?_)
        refine Q1 Z Z Z Z ?_
        refine Qk Z Z (Qr Z Z) Z (Qa (Qr Z Z) Z (Qa (Qe Z) Z (Qk Z Z (Qd Xj Z) Z (Qk Z Z (Qj Xi Z (h10.one 0 Z)) Z (Qk Z Z (Yg Tryz.underlying27 Z (Worker.opD hD9).1.len) Z (Qk Z Z (Qd Xj Z) Z (Qk Z Z (Qj Xi Z (h7.one 0 Z)) Z (Qk Z Z (Yg Tryz.underlying27 Z (Worker.opD hD7).1.len) Z (Qk Z Z (Yw Z Z Z) Z (Qk Z Z (Yq Z Z) Z (Qa (Qr Z Z) Z (Qa (Qe Z) Z ?_))))))))))))
        refine Ym (gd:=211) Z Z (fun hg19=>?_) (fun hg19=>?_)
        ·refine Y3 Z Z ?_
         refine Qv Tryz.call25 Z (s_WorkerNew (.slice none 0 0) [] _ (RdS.nil _) (by first | omega | (simp;done))) Z (fun _ w69 e49 ho29=>?_)
         obtain ⟨_,rfl,ho29⟩:=ho29
         have g_ho29 : w.heap.size ≤ w55.heap.size:=E.size
         replace E:=E.trans e49;replace hD1:=hD1.ext e49;replace hD2:=hD2.ext e49;replace h1:=h1.ext e49;replace h2:=h2.ext e49;replace hD3:=hD3.ext e49;replace h3:=h3.ext e49;replace hD5:=hD5.ext e49;replace h5:=h5.ext e49;replace hD7:=hD7.ext e49;replace h7:=h7.ext e49;replace hD9:=hD9.ext e49;replace h10:=h10.ext e49
         have z68:=e49.size
         have hD20:=Own1.rd ho29
         obtain ⟨o146,o147,o148,o149,o150,o151,o152,o153,rfl,_,_,_,_,_,_,_,_⟩:=Worker.op hD20
         clear ho29
         refine Y3 Z Z ?_
         refine Qv Tryz.call22 Z (c_Idle [o146,o147,o148,o149,o150,o151,o152,o153] (Yi []) _ (Dat.R.any hD20) (by rw [V2];exact Nat.le_of_ble_eq_true Z)) Z (fun _ w70 e50 hv=>?_)
         subst hv
         replace E:=E.trans e50;replace hD1:=hD1.ext e50;replace hD2:=hD2.ext e50;replace h1:=h1.ext e50;replace h2:=h2.ext e50;replace hD3:=hD3.ext e50;replace h3:=h3.ext e50;replace hD5:=hD5.ext e50;replace h5:=h5.ext e50;replace hD7:=hD7.ext e50;replace h7:=h7.ext e50;replace hD9:=hD9.ext e50;replace h10:=h10.ext e50;replace hD20:=hD20.ext e50
         have z69:=e50.size
         refine Qa (Qr Z Z) Z (Ql ⟨Z,Z,Z,Z,Z,Z,Z,Z,Z,congrArg (fun b=>some (Value.bool b)) (show (Ky (Yi [])) = ((((((!((Q2 dx1 dx2).2)) || (((((((Q2 dx1 dx2).1).queue).length : Nat) : Int) == (IntKind.i64.wrap (((dx2.queue.length : Nat) : Int) - 1))) && (Yc dx1 ((Q2 dx1 dx2).1)))) && ((!((Yd dx1 dx2).2)) || (((((((Yd dx1 dx2).1).inputs).length : Nat) : Int) == (IntKind.i64.wrap (((dx2.inputs.length : Nat) : Int) - 1))) && ((((((Yd dx1 dx2).1).queue).length : Nat) : Int) == 1)))) && (((Q2 dx1 dx2).2) || (decide (((Q2 dx1 dx2).1) = dx2)))) && (((((Yz dx3 dx4).queue).length : Nat) : Int) == (IntKind.i64.wrap (((dx3.queue.length : Nat) : Int) + 1)))) && (Ky (Yi []))) by first | (rw [hg10,hg11,hg16,hg17,hg18,hg19] <;> rfl) | (simp [hg10,hg11,hg16,hg17,hg18,hg19];done) | (simp only [Qp] <;> simp)),trivial⟩ ⟨E,(by omega),hD1,hD2,h1,h2,hD3,h3,hD5,h5,hD7,h7,hD9,h10⟩)
        ·refine Q1 Z Z Z Z ?_
         refine Q1 Z Z Z Z ?_
         refine Qa (Qq Z Z) Z (Ql ⟨Z,Z,Z,Z,Z,Z,Z,Z,Z,congrArg (fun b=>some (Value.bool b)) (show false = ((((((!((Q2 dx1 dx2).2)) || (((((((Q2 dx1 dx2).1).queue).length : Nat) : Int) == (IntKind.i64.wrap (((dx2.queue.length : Nat) : Int) - 1))) && (Yc dx1 ((Q2 dx1 dx2).1)))) && ((!((Yd dx1 dx2).2)) || (((((((Yd dx1 dx2).1).inputs).length : Nat) : Int) == (IntKind.i64.wrap (((dx2.inputs.length : Nat) : Int) - 1))) && ((((((Yd dx1 dx2).1).queue).length : Nat) : Int) == 1)))) && (((Q2 dx1 dx2).2) || (decide (((Q2 dx1 dx2).1) = dx2)))) && (((((Yz dx3 dx4).queue).length : Nat) : Int) == (IntKind.i64.wrap (((dx3.queue.length : Nat) : Int) + 1)))) && (Ky (Yi []))) by first | (rw [hg10,hg11,hg16,hg17,hg18,hg19] <;> rfl) | (simp [hg10,hg11,hg16,hg17,hg18,hg19];done) | (simp only [Qp] <;> simp)),trivial⟩ ⟨E,(by omega),hD1,hD2,h1,h2,hD3,h3,hD5,h5,hD7,h7,hD9,h10⟩)
       ·refine Qk Z Z (Qo Q7 Z h3.at Z) Z (Qk Z Z (Qo Q7 Z h2.at Z) Z ?_)
        refine Y3 Z Z ?_
        refine Qv Tryz.call10 Z (l_sameWorker [o10,o11,o12,o13,o14,o15,o16,o17] ((Q2 dx1 dx2).1) [o2,o3,o4,o5,o6,o7,o8,o9] dx2 _ (Dat.R.any hD3) (Dat.R.any hD2)) Z (fun _ w71 e51 hv=>?_)
        subst hv
        replace E:=E.trans e51;replace hD1:=hD1.ext e51;replace hD2:=hD2.ext e51;replace h1:=h1.ext e51;replace h2:=h2.ext e51;replace hD3:=hD3.ext e51;replace h3:=h3.ext e51;replace hD5:=hD5.ext e51;replace h5:=h5.ext e51;replace hD7:=hD7.ext e51;replace h7:=h7.ext e51;replace hD9:=hD9.ext e51;replace h10:=h10.ext e51
        have z70:=e51.size
        refine Qk Z Z (Qq Z Z) Z (Qa (Qr Z Z) Z (Qa (Qe Z) Z ?_))
        refine Ym (gd:=201) Z Z (fun hg20=>?_) (fun hg20=>?_)
        ·refine Qk Z Z (Qd Xj Z) Z (Qk Z Z (Qj Xi Z (h10.one 0 Z)) Z (Qk Z Z (Yg Tryz.underlying27 Z (Worker.opD hD9).1.len) Z (Qk Z Z (Qd Xj Z) Z (Qk Z Z (Qj Xi Z (h7.one 0 Z)) Z (Qk Z Z (Yg Tryz.underlying27 Z (Worker.opD hD7).1.len) Z (Qk Z Z (Yw Z Z Z) Z (Qk Z Z (Yq Z Z) Z (Qa (Qr Z Z) Z (Qa (Qe Z) Z ?_)))))))))
         refine Ym (gd:=211) Z Z (fun hg21=>?_) (fun hg21=>?_)
         ·refine Y3 Z Z ?_
          refine Qv Tryz.call25 Z (s_WorkerNew (.slice none 0 0) [] _ (RdS.nil _) (by first | omega | (simp;done))) Z (fun _ w72 e52 ho30=>?_)
          obtain ⟨_,rfl,ho30⟩:=ho30
          have g_ho30 : w.heap.size ≤ w71.heap.size:=E.size
          replace E:=E.trans e52;replace hD1:=hD1.ext e52;replace hD2:=hD2.ext e52;replace h1:=h1.ext e52;replace h2:=h2.ext e52;replace hD3:=hD3.ext e52;replace h3:=h3.ext e52;replace hD5:=hD5.ext e52;replace h5:=h5.ext e52;replace hD7:=hD7.ext e52;replace h7:=h7.ext e52;replace hD9:=hD9.ext e52;replace h10:=h10.ext e52
          have z71:=e52.size
          have hD21:=Own1.rd ho30
          obtain ⟨o154,o155,o156,o157,o158,o159,o160,o161,rfl,_,_,_,_,_,_,_,_⟩:=Worker.op hD21
          clear ho30
          refine Y3 Z Z ?_
          refine Qv Tryz.call22 Z (c_Idle [o154,o155,o156,o157,o158,o159,o160,o161] (Yi []) _ (Dat.R.any hD21) (by rw [V2];exact Nat.le_of_ble_eq_true Z)) Z (fun _ w73 e53 hv=>?_)
          subst hv
          replace E:=E.trans e53;replace hD1:=hD1.ext e53;replace hD2:=hD2.ext e53;replace h1:=h1.ext e53;replace h2:=h2.ext e53;replace hD3:=hD3.ext e53;replace h3:=h3.ext e53;replace hD5:=hD5.ext e53;replace h5:=h5.ext e53;replace hD7:=hD7.ext e53;replace h7:=h7.ext e53;replace hD9:=hD9.ext e53;replace h10:=h10.ext e53;replace hD21:=hD21.ext e53
          have z72:=e53.size
          refine Qa (Qr Z Z) Z (Ql ⟨Z,Z,Z,Z,Z,Z,Z,Z,Z,congrArg (fun b=>some (Value.bool b)) (show (Ky (Yi [])) = ((((((!((Q2 dx1 dx2).2)) || (((((((Q2 dx1 dx2).1).queue).length : Nat) : Int) == (IntKind.i64.wrap (((dx2.queue.length : Nat) : Int) - 1))) && (Yc dx1 ((Q2 dx1 dx2).1)))) && ((!((Yd dx1 dx2).2)) || (((((((Yd dx1 dx2).1).inputs).length : Nat) : Int) == (IntKind.i64.wrap (((dx2.inputs.length : Nat) : Int) - 1))) && ((((((Yd dx1 dx2).1).queue).length : Nat) : Int) == 1)))) && (((Q2 dx1 dx2).2) || (decide (((Q2 dx1 dx2).1) = dx2)))) && (((((Yz dx3 dx4).queue).length : Nat) : Int) == (IntKind.i64.wrap (((dx3.queue.length : Nat) : Int) + 1)))) && (Ky (Yi []))) by first | (rw [hg10,hg11,hg16,hg17,hg18,hg20,hg21] <;> rfl) | (simp [hg10,hg11,hg16,hg17,hg18,hg20,hg21];done) | (simp only [Qp] <;> simp)),trivial⟩ ⟨E,(by omega),hD1,hD2,h1,h2,hD3,h3,hD5,h5,hD7,h7,hD9,h10⟩)
         ·refine Q1 Z Z Z Z ?_
          refine Q1 Z Z Z Z ?_
          refine Qa (Qq Z Z) Z (Ql ⟨Z,Z,Z,Z,Z,Z,Z,Z,Z,congrArg (fun b=>some (Value.bool b)) (show false = ((((((!((Q2 dx1 dx2).2)) || (((((((Q2 dx1 dx2).1).queue).length : Nat) : Int) == (IntKind.i64.wrap (((dx2.queue.length : Nat) : Int) - 1))) && (Yc dx1 ((Q2 dx1 dx2).1)))) && ((!((Yd dx1 dx2).2)) || (((((((Yd dx1 dx2).1).inputs).length : Nat) : Int) == (IntKind.i64.wrap (((dx2.inputs.length : Nat) : Int) - 1))) && ((((((Yd dx1 dx2).1).queue).length : Nat) : Int) == 1)))) && (((Q2 dx1 dx2).2) || (decide (((Q2 dx1 dx2).1) = dx2)))) && (((((Yz dx3 dx4).queue).length : Nat) : Int) == (IntKind.i64.wrap (((dx3.queue.length : Nat) : Int) + 1)))) && (Ky (Yi []))) by first | (rw [hg10,hg11,hg16,hg17,hg18,hg20,hg21] <;> rfl) | (simp [hg10,hg11,hg16,hg17,hg18,hg20,hg21];done) | (simp only [Qp] <;> simp)),trivial⟩ ⟨E,(by omega),hD1,hD2,h1,h2,hD3,h3,hD5,h5,hD7,h7,hD9,h10⟩)
        ·refine Qc Z Z Z Z (Qc Z Z Z Z (Qc Z Z Z Z (Qc Z Z Z Z (Qc Z Z Z Z (Qc Z Z Z Z (Qc Z Z Z Z (Qc Z Z Z Z (Qa (Qq Z Z) Z (Qa (Qe Z) Z ?_)))))))))
         refine Q1 Z Z Z Z ?_
         refine Q1 Z Z Z Z ?_
         refine Qa (Qq Z Z) Z (Ql ⟨Z,Z,Z,Z,Z,Z,Z,Z,Z,congrArg (fun b=>some (Value.bool b)) (show false = ((((((!((Q2 dx1 dx2).2)) || (((((((Q2 dx1 dx2).1).queue).length : Nat) : Int) == (IntKind.i64.wrap (((dx2.queue.length : Nat) : Int) - 1))) && (Yc dx1 ((Q2 dx1 dx2).1)))) && ((!((Yd dx1 dx2).2)) || (((((((Yd dx1 dx2).1).inputs).length : Nat) : Int) == (IntKind.i64.wrap (((dx2.inputs.length : Nat) : Int) - 1))) && ((((((Yd dx1 dx2).1).queue).length : Nat) : Int) == 1)))) && (((Q2 dx1 dx2).2) || (decide (((Q2 dx1 dx2).1) = dx2)))) && (((((Yz dx3 dx4).queue).length : Nat) : Int) == (IntKind.i64.wrap (((dx3.queue.length : Nat) : Int) + 1)))) && (Ky (Yi []))) by first | (rw [hg10,hg11,hg16,hg17,hg18,hg20] <;> rfl) | (simp [hg10,hg11,hg16,hg17,hg18,hg20];done) | (simp only [Qp] <;> simp)),trivial⟩ ⟨E,(by omega),hD1,hD2,h1,h2,hD3,h3,hD5,h5,hD7,h7,hD9,h10⟩)
      ·have hg17n : ¬ (((Yd dx1 dx2).1).queue).length = 1:=by first | (have h:=of_decide_eq_false hg17;omega) | (have h:=hg17;simp at h;omega)
       refine Qc Z Z Z Z (Qc Z Z Z Z (Q3 Z Z Z (Q3 Z Z Z ?_)))
       refine H4 Z Z Z ?_
       refine Qc Z Z Z Z (Qa (Qq Z Z) Z (Qa (Qe Z) Z (Qc Z Z Z Z (Qc Z Z Z Z (Qc Z Z Z Z (Qc Z Z Z Z (Qc Z Z Z Z (Qc Z Z Z Z (Qc Z Z Z Z (Qc Z Z Z Z (Qa (Qq Z Z) Z (Qa (Qe Z) Z ?_))))))))))))
       refine Q1 Z Z Z Z ?_
       refine Q1 Z Z Z Z ?_
       refine Qa (Qq Z Z) Z (Ql ⟨Z,Z,Z,Z,Z,Z,Z,Z,Z,congrArg (fun b=>some (Value.bool b)) (show false = ((((((!((Q2 dx1 dx2).2)) || (((((((Q2 dx1 dx2).1).queue).length : Nat) : Int) == (IntKind.i64.wrap (((dx2.queue.length : Nat) : Int) - 1))) && (Yc dx1 ((Q2 dx1 dx2).1)))) && ((!((Yd dx1 dx2).2)) || (((((((Yd dx1 dx2).1).inputs).length : Nat) : Int) == (IntKind.i64.wrap (((dx2.inputs.length : Nat) : Int) - 1))) && ((((((Yd dx1 dx2).1).queue).length : Nat) : Int) == 1)))) && (((Q2 dx1 dx2).2) || (decide (((Q2 dx1 dx2).1) = dx2)))) && (((((Yz dx3 dx4).queue).length : Nat) : Int) == (IntKind.i64.wrap (((dx3.queue.length : Nat) : Int) + 1)))) && (Ky (Yi []))) by first | (rw [hg10,hg11,hg16,hg17] <;> rfl) | (simp [hg10,hg11,hg16,hg17];done) | (simp only [Qp] <;> simp)),trivial⟩ ⟨E,(by omega),hD1,hD2,h1,h2,hD3,h3,hD5,h5,hD7,h7,hD9,h10⟩)
     ·refine Qc Z Z Z Z (Qc Z Z Z Z (Qc Z Z Z Z (Qc Z Z Z Z (Qk Z Z (Qq Z Z) Z (Qk Z Z (Qq Z Z) Z (Qa (Qr Z Z) Z (Qa (Qe Z) Z (Qc Z Z Z Z (Qc Z Z Z Z (Q3 Z Z Z (Q3 Z Z Z ?_)))))))))))
      refine H4 Z Z Z ?_
      refine Qc Z Z Z Z (Qa (Qq Z Z) Z (Qa (Qe Z) Z (Qc Z Z Z Z (Qc Z Z Z Z (Qc Z Z Z Z (Qc Z Z Z Z (Qc Z Z Z Z (Qc Z Z Z Z (Qc Z Z Z Z (Qc Z Z Z Z (Qa (Qq Z Z) Z (Qa (Qe Z) Z ?_))))))))))))
      refine Q1 Z Z Z Z ?_
      refine Q1 Z Z Z Z ?_
      refine Qa (Qq Z Z) Z (Ql ⟨Z,Z,Z,Z,Z,Z,Z,Z,Z,congrArg (fun b=>some (Value.bool b)) (show false = ((((((!((Q2 dx1 dx2).2)) || (((((((Q2 dx1 dx2).1).queue).length : Nat) : Int) == (IntKind.i64.wrap (((dx2.queue.length : Nat) : Int) - 1))) && (Yc dx1 ((Q2 dx1 dx2).1)))) && ((!((Yd dx1 dx2).2)) || (((((((Yd dx1 dx2).1).inputs).length : Nat) : Int) == (IntKind.i64.wrap (((dx2.inputs.length : Nat) : Int) - 1))) && ((((((Yd dx1 dx2).1).queue).length : Nat) : Int) == 1)))) && (((Q2 dx1 dx2).2) || (decide (((Q2 dx1 dx2).1) = dx2)))) && (((((Yz dx3 dx4).queue).length : Nat) : Int) == (IntKind.i64.wrap (((dx3.queue.length : Nat) : Int) + 1)))) && (Ky (Yi []))) by first | (rw [hg10,hg11,hg16] <;> rfl) | (simp [hg10,hg11,hg16];done) | (simp only [Qp] <;> simp)),trivial⟩ ⟨E,(by omega),hD1,hD2,h1,h2,hD3,h3,hD5,h5,hD7,h7,hD9,h10⟩)
   ·refine Qk Z Z (Qd Xj Z) Z (Qk Z Z (Qj Xi Z (h3.one 0 Z)) Z (Qk Z Z (Yg Tryz.underlying27 Z (Worker.opD hD3).1.len) Z (Qk Z Z (Qd Xj Z) Z (Qk Z Z (Qj Xi Z (h2.one 0 Z)) Z (Qk Z Z (Yg Tryz.underlying27 Z (Worker.opD hD2).1.len) Z (Qk Z Z (U5 Z Z Z) Z (Qk Z Z (Yq Z Z) Z (Qk Z Z (Qe Z) Z ?_))))))))
    refine Ym (gd:=167) Z Z (fun hg22=>?_) (fun hg22=>?_)
    ·refine Qk Z Z (Qo Xt Z h1.at Z) Z (Qk Z Z (Qo Q7 Z h3.at Z) Z ?_)
     refine Y3 Z Z ?_
     refine Qv Tryz.call24 Z (s_WorkerOk [o1,.int .i64 dx1.workers,.int .i64 dx1.cap] dx1 [o10,o11,o12,o13,o14,o15,o16,o17] ((Q2 dx1 dx2).1) _ (Dat.R.any hD1) (Dat.R.any hD3)) Z (fun _ w74 e54 hv=>?_)
     subst hv
     replace E:=E.trans e54;replace hD1:=hD1.ext e54;replace hD2:=hD2.ext e54;replace h1:=h1.ext e54;replace h2:=h2.ext e54;replace hD3:=hD3.ext e54;replace h3:=h3.ext e54;replace hD5:=hD5.ext e54;replace h5:=h5.ext e54;replace hD7:=hD7.ext e54;replace h7:=h7.ext e54;replace hD9:=hD9.ext e54;replace h10:=h10.ext e54
     have z73:=e54.size
     refine Qk Z Z (Qr Z Z) Z (Qa (Qq Z Z) Z (Qa (Qe Z) Z ?_))
     refine Ym (gd:=173) Z Z (fun hg23=>?_) (fun hg23=>?_)
     ·refine Qk Z Z (Qe Z) Z (Qk Z Z (Y1 Z) Z (Qk Z Z (Qe Z) Z ?_))
      refine Ym (gd:=176) Z Z (fun hg24=>?_) (fun hg24=>?_)
      ·refine Qc Z Z Z Z (Qc Z Z Z Z (Qc Z Z Z Z (Qc Z Z Z Z (Qc Z Z Z Z (Qc Z Z Z Z (Qc Z Z Z Z (Qc Z Z Z Z (Qc Z Z Z Z (Q3 Z Z Z (Q3 Z Z Z (Q3 Z Z Z (Q3 Z Z Z (Qc Z Z Z Z (Qk Z Z (Qr Z Z) Z (Qa (Qr Z Z) Z (Qa (Qe Z) Z (Qk Z Z (Qe Z) Z (Qk Z Z (Qe Z) Z ?_))))))))))))))))))
       refine Ym (gd:=195) Z Z (fun hg25=>?_) (fun hg25=>?_)
       ·refine Qc Z Z Z Z (Qc Z Z Z Z ?_)
        refine Q1 Z Z Z Z ?_
        refine Qk Z Z (Qr Z Z) Z (Qa (Qr Z Z) Z (Qa (Qe Z) Z (Qk Z Z (Qd Xj Z) Z (Qk Z Z (Qj Xi Z (h10.one 0 Z)) Z (Qk Z Z (Yg Tryz.underlying27 Z (Worker.opD hD9).1.len) Z (Qk Z Z (Qd Xj Z) Z (Qk Z Z (Qj Xi Z (h7.one 0 Z)) Z (Qk Z Z (Yg Tryz.underlying27 Z (Worker.opD hD7).1.len) Z (Qk Z Z (Yw Z Z Z) Z (Qk Z Z (Yq Z Z) Z (Qa (Qr Z Z) Z (Qa (Qe Z) Z ?_))))))))))))
        refine Ym (gd:=211) Z Z (fun hg26=>?_) (fun hg26=>?_)
        ·refine Y3 Z Z ?_
         refine Qv Tryz.call25 Z (s_WorkerNew (.slice none 0 0) [] _ (RdS.nil _) (by first | omega | (simp;done))) Z (fun _ w75 e55 ho31=>?_)
         obtain ⟨_,rfl,ho31⟩:=ho31
         have g_ho31 : w.heap.size ≤ w74.heap.size:=E.size
         replace E:=E.trans e55;replace hD1:=hD1.ext e55;replace hD2:=hD2.ext e55;replace h1:=h1.ext e55;replace h2:=h2.ext e55;replace hD3:=hD3.ext e55;replace h3:=h3.ext e55;replace hD5:=hD5.ext e55;replace h5:=h5.ext e55;replace hD7:=hD7.ext e55;replace h7:=h7.ext e55;replace hD9:=hD9.ext e55;replace h10:=h10.ext e55
         have z74:=e55.size
         have hD22:=Own1.rd ho31
         obtain ⟨o162,o163,o164,o165,o166,o167,o168,o169,rfl,_,_,_,_,_,_,_,_⟩:=Worker.op hD22
         clear ho31
         refine Y3 Z Z ?_
         refine Qv Tryz.call22 Z (c_Idle [o162,o163,o164,o165,o166,o167,o168,o169] (Yi []) _ (Dat.R.any hD22) (by rw [V2];exact Nat.le_of_ble_eq_true Z)) Z (fun _ w76 e56 hv=>?_)
         subst hv
         replace E:=E.trans e56;replace hD1:=hD1.ext e56;replace hD2:=hD2.ext e56;replace h1:=h1.ext e56;replace h2:=h2.ext e56;replace hD3:=hD3.ext e56;replace h3:=h3.ext e56;replace hD5:=hD5.ext e56;replace h5:=h5.ext e56;replace hD7:=hD7.ext e56;replace h7:=h7.ext e56;replace hD9:=hD9.ext e56;replace h10:=h10.ext e56;replace hD22:=hD22.ext e56
         have z75:=e56.size
         refine Qa (Qr Z Z) Z (Ql ⟨Z,Z,Z,Z,Z,Z,Z,Z,Z,congrArg (fun b=>some (Value.bool b)) (show (Ky (Yi [])) = ((((((!((Q2 dx1 dx2).2)) || (((((((Q2 dx1 dx2).1).queue).length : Nat) : Int) == (IntKind.i64.wrap (((dx2.queue.length : Nat) : Int) - 1))) && (Yc dx1 ((Q2 dx1 dx2).1)))) && ((!((Yd dx1 dx2).2)) || (((((((Yd dx1 dx2).1).inputs).length : Nat) : Int) == (IntKind.i64.wrap (((dx2.inputs.length : Nat) : Int) - 1))) && ((((((Yd dx1 dx2).1).queue).length : Nat) : Int) == 1)))) && (((Q2 dx1 dx2).2) || (decide (((Q2 dx1 dx2).1) = dx2)))) && (((((Yz dx3 dx4).queue).length : Nat) : Int) == (IntKind.i64.wrap (((dx3.queue.length : Nat) : Int) + 1)))) && (Ky (Yi []))) by first | (rw [hg10,hg22,hg23,hg24,hg25,hg26] <;> rfl) | (simp [hg10,hg22,hg23,hg24,hg25,hg26];done) | (simp only [Qp] <;> simp)),trivial⟩ ⟨E,(by omega),hD1,hD2,h1,h2,hD3,h3,hD5,h5,hD7,h7,hD9,h10⟩)
        ·refine Q1 Z Z Z Z ?_
         refine Q1 Z Z Z Z ?_
         refine Qa (Qq Z Z) Z (Ql ⟨Z,Z,Z,Z,Z,Z,Z,Z,Z,congrArg (fun b=>some (Value.bool b)) (show false = ((((((!((Q2 dx1 dx2).2)) || (((((((Q2 dx1 dx2).1).queue).length : Nat) : Int) == (IntKind.i64.wrap (((dx2.queue.length : Nat) : Int) - 1))) && (Yc dx1 ((Q2 dx1 dx2).1)))) && ((!((Yd dx1 dx2).2)) || (((((((Yd dx1 dx2).1).inputs).length : Nat) : Int) == (IntKind.i64.wrap (((dx2.inputs.length : Nat) : Int) - 1))) && ((((((Yd dx1 dx2).1).queue).length : Nat) : Int) == 1)))) && (((Q2 dx1 dx2).2) || (decide (((Q2 dx1 dx2).1) = dx2)))) && (((((Yz dx3 dx4).queue).length : Nat) : Int) == (IntKind.i64.wrap (((dx3.queue.length : Nat) : Int) + 1)))) && (Ky (Yi []))) by first | (rw [hg10,hg22,hg23,hg24,hg25,hg26] <;> rfl) | (simp [hg10,hg22,hg23,hg24,hg25,hg26];done) | (simp only [Qp] <;> simp)),trivial⟩ ⟨E,(by omega),hD1,hD2,h1,h2,hD3,h3,hD5,h5,hD7,h7,hD9,h10⟩)
       ·refine Qk Z Z (Qo Q7 Z h3.at Z) Z (Qk Z Z (Qo Q7 Z h2.at Z) Z ?_)
        refine Y3 Z Z ?_
        refine Qv Tryz.call10 Z (l_sameWorker [o10,o11,o12,o13,o14,o15,o16,o17] ((Q2 dx1 dx2).1) [o2,o3,o4,o5,o6,o7,o8,o9] dx2 _ (Dat.R.any hD3) (Dat.R.any hD2)) Z (fun _ w77 e57 hv=>?_)
        subst hv
        replace E:=E.trans e57;replace hD1:=hD1.ext e57;replace hD2:=hD2.ext e57;replace h1:=h1.ext e57;replace h2:=h2.ext e57;replace hD3:=hD3.ext e57;replace h3:=h3.ext e57;replace hD5:=hD5.ext e57;replace h5:=h5.ext e57;replace hD7:=hD7.ext e57;replace h7:=h7.ext e57;replace hD9:=hD9.ext e57;replace h10:=h10.ext e57
        have z76:=e57.size
        refine Qk Z Z (Qq Z Z) Z (Qa (Qr Z Z) Z (Qa (Qe Z) Z ?_))
        refine Ym (gd:=201) Z Z (fun hg27=>?_) (fun hg27=>?_)
        ·refine Qk Z Z (Qd Xj Z) Z (Qk Z Z (Qj Xi Z (h10.one 0 Z)) Z (Qk Z Z (Yg Tryz.underlying27 Z (Worker.opD hD9).1.len) Z (Qk Z Z (Qd Xj Z) Z (Qk Z Z (Qj Xi Z (h7.one 0 Z)) Z (Qk Z Z (Yg Tryz.underlying27 Z (Worker.opD hD7).1.len) Z (Qk Z Z (Yw Z Z Z) Z (Qk Z Z (Yq Z Z) Z (Qa (Qr Z Z) Z (Qa (Qe Z) Z ?_)))))))))
         refine Ym (gd:=211) Z Z (fun hg28=>?_) (fun hg28=>?_)
         ·refine Y3 Z Z ?_
          refine Qv Tryz.call25 Z (s_WorkerNew (.slice none 0 0) [] _ (RdS.nil _) (by first | omega | (simp;done))) Z (fun _ w78 e58 ho32=>?_)
          obtain ⟨_,rfl,ho32⟩:=ho32
          have g_ho32 : w.heap.size ≤ w77.heap.size:=E.size
          replace E:=E.trans e58;replace hD1:=hD1.ext e58;replace hD2:=hD2.ext e58;replace h1:=h1.ext e58;replace h2:=h2.ext e58;replace hD3:=hD3.ext e58;replace h3:=h3.ext e58;replace hD5:=hD5.ext e58;replace h5:=h5.ext e58;replace hD7:=hD7.ext e58;replace h7:=h7.ext e58;replace hD9:=hD9.ext e58;replace h10:=h10.ext e58
          have z77:=e58.size
          have hD23:=Own1.rd ho32
          obtain ⟨o170,o171,o172,o173,o174,o175,o176,o177,rfl,_,_,_,_,_,_,_,_⟩:=Worker.op hD23
          clear ho32
          refine Y3 Z Z ?_
          refine Qv Tryz.call22 Z (c_Idle [o170,o171,o172,o173,o174,o175,o176,o177] (Yi []) _ (Dat.R.any hD23) (by rw [V2];exact Nat.le_of_ble_eq_true Z)) Z (fun _ w79 e59 hv=>?_)
          subst hv
          replace E:=E.trans e59;replace hD1:=hD1.ext e59;replace hD2:=hD2.ext e59;replace h1:=h1.ext e59;replace h2:=h2.ext e59;replace hD3:=hD3.ext e59;replace h3:=h3.ext e59;replace hD5:=hD5.ext e59;replace h5:=h5.ext e59;replace hD7:=hD7.ext e59;replace h7:=h7.ext e59;replace hD9:=hD9.ext e59;replace h10:=h10.ext e59;replace hD23:=hD23.ext e59
          have z78:=e59.size
          refine Qa (Qr Z Z) Z (Ql ⟨Z,Z,Z,Z,Z,Z,Z,Z,Z,congrArg (fun b=>some (Value.bool b)) (show (Ky (Yi [])) = ((((((!((Q2 dx1 dx2).2)) || (((((((Q2 dx1 dx2).1).queue).length : Nat) : Int) == (IntKind.i64.wrap (((dx2.queue.length : Nat) : Int) - 1))) && (Yc dx1 ((Q2 dx1 dx2).1)))) && ((!((Yd dx1 dx2).2)) || (((((((Yd dx1 dx2).1).inputs).length : Nat) : Int) == (IntKind.i64.wrap (((dx2.inputs.length : Nat) : Int) - 1))) && ((((((Yd dx1 dx2).1).queue).length : Nat) : Int) == 1)))) && (((Q2 dx1 dx2).2) || (decide (((Q2 dx1 dx2).1) = dx2)))) && (((((Yz dx3 dx4).queue).length : Nat) : Int) == (IntKind.i64.wrap (((dx3.queue.length : Nat) : Int) + 1)))) && (Ky (Yi []))) by first | (rw [hg10,hg22,hg23,hg24,hg25,hg27,hg28] <;> rfl) | (simp [hg10,hg22,hg23,hg24,hg25,hg27,hg28];done) | (simp only [Qp] <;> simp)),trivial⟩ ⟨E,(by omega),hD1,hD2,h1,h2,hD3,h3,hD5,h5,hD7,h7,hD9,h10⟩)
         ·refine Q1 Z Z Z Z ?_
          refine Q1 Z Z Z Z ?_
          refine Qa (Qq Z Z) Z (Ql ⟨Z,Z,Z,Z,Z,Z,Z,Z,Z,congrArg (fun b=>some (Value.bool b)) (show false = ((((((!((Q2 dx1 dx2).2)) || (((((((Q2 dx1 dx2).1).queue).length : Nat) : Int) == (IntKind.i64.wrap (((dx2.queue.length : Nat) : Int) - 1))) && (Yc dx1 ((Q2 dx1 dx2).1)))) && ((!((Yd dx1 dx2).2)) || (((((((Yd dx1 dx2).1).inputs).length : Nat) : Int) == (IntKind.i64.wrap (((dx2.inputs.length : Nat) : Int) - 1))) && ((((((Yd dx1 dx2).1).queue).length : Nat) : Int) == 1)))) && (((Q2 dx1 dx2).2) || (decide (((Q2 dx1 dx2).1) = dx2)))) && (((((Yz dx3 dx4).queue).length : Nat) : Int) == (IntKind.i64.wrap (((dx3.queue.length : Nat) : Int) + 1)))) && (Ky (Yi []))) by first | (rw [hg10,hg22,hg23,hg24,hg25,hg27,hg28] <;> rfl) | (simp [hg10,hg22,hg23,hg24,hg25,hg27,hg28];done) | (simp only [Qp] <;> simp)),trivial⟩ ⟨E,(by omega),hD1,hD2,h1,h2,hD3,h3,hD5,h5,hD7,h7,hD9,h10⟩)
        ·refine Qc Z Z Z Z (Qc Z Z Z Z (Qc Z Z Z Z (Qc Z Z Z Z (Qc Z Z Z Z (Qc Z Z Z Z (Qc Z Z Z Z (Qc Z Z Z Z (Qa (Qq Z Z) Z (Qa (Qe Z) Z ?_)))))))))
         refine Q1 Z Z Z Z ?_
         refine Q1 Z Z Z Z ?_
         refine Qa (Qq Z Z) Z (Ql ⟨Z,Z,Z,Z,Z,Z,Z,Z,Z,congrArg (fun b=>some (Value.bool b)) (show false = ((((((!((Q2 dx1 dx2).2)) || (((((((Q2 dx1 dx2).1).queue).length : Nat) : Int) == (IntKind.i64.wrap (((dx2.queue.length : Nat) : Int) - 1))) && (Yc dx1 ((Q2 dx1 dx2).1)))) && ((!((Yd dx1 dx2).2)) || (((((((Yd dx1 dx2).1).inputs).length : Nat) : Int) == (IntKind.i64.wrap (((dx2.inputs.length : Nat) : Int) - 1))) && ((((((Yd dx1 dx2).1).queue).length : Nat) : Int) == 1)))) && (((Q2 dx1 dx2).2) || (decide (((Q2 dx1 dx2).1) = dx2)))) && (((((Yz dx3 dx4).queue).length : Nat) : Int) == (IntKind.i64.wrap (((dx3.queue.length : Nat) : Int) + 1)))) && (Ky (Yi []))) by first | (rw [hg10,hg22,hg23,hg24,hg25,hg27] <;> rfl) | (simp [hg10,hg22,hg23,hg24,hg25,hg27];done) | (simp only [Qp] <;> simp)),trivial⟩ ⟨E,(by omega),hD1,hD2,h1,h2,hD3,h3,hD5,h5,hD7,h7,hD9,h10⟩)
      ·refine Qk Z Z (Qd Kc Z) Z (Qk Z Z (Qj Xi Z (h5.one 2 Z)) Z (Qk Z Z (Yg Tryz.underlying27 Z (Worker.opD hD5).2.2.1.len) Z (Qk Z Z (Qd Kc Z) Z (Qk Z Z (Qj Xi Z (h2.one 2 Z)) Z (Qk Z Z (Yg Tryz.underlying27 Z (Worker.opD hD2).2.2.1.len) Z (Qk Z Z (U5 Z Z Z) Z (Qk Z Z (Yq Z Z) Z (Qk Z Z (Qe Z) Z ?_))))))))
       refine Ym (gd:=185) Z Z (fun hg29=>?_) (fun hg29=>?_)
       ·refine Qk Z Z (Qd Xj Z) Z (Qk Z Z (Qj Xi Z (h5.one 0 Z)) Z (Qk Z Z (Yg Tryz.underlying27 Z (Worker.opD hD5).1.len) Z (Qk Z Z (Yq Z Z) Z (Qk Z Z (Qr Z Z) Z (Qk Z Z (Qq Z Z) Z (Qa (Qr Z Z) Z (Qa (Qe Z) Z ?_)))))))
        refine Ym (gd:=193) Z Z (fun hg30=>?_) (fun hg30=>?_)
        ·have hg30n : (((Yd dx1 dx2).1).queue).length = 1:=by first | (have h:=of_decide_eq_true hg30;omega) | (have h:=hg30;simp at h;omega)
         refine Qk Z Z (Qe Z) Z (Qk Z Z (Qe Z) Z ?_)
         refine Ym (gd:=195) Z Z (fun hg31=>?_) (fun hg31=>?_)
         ·refine Qc Z Z Z Z (Qc Z Z Z Z ?_)
          refine Q1 Z Z Z Z ?_
          refine Qk Z Z (Qr Z Z) Z (Qa (Qr Z Z) Z (Qa (Qe Z) Z (Qk Z Z (Qd Xj Z) Z (Qk Z Z (Qj Xi Z (h10.one 0 Z)) Z (Qk Z Z (Yg Tryz.underlying27 Z (Worker.opD hD9).1.len) Z (Qk Z Z (Qd Xj Z) Z (Qk Z Z (Qj Xi Z (h7.one 0 Z)) Z (Qk Z Z (Yg Tryz.underlying27 Z (Worker.opD hD7).1.len) Z (Qk Z Z (Yw Z Z Z) Z (Qk Z Z (Yq Z Z) Z (Qa (Qr Z Z) Z (Qa (Qe Z) Z ?_))))))))))))
          refine Ym (gd:=211) Z Z (fun hg32=>?_) (fun hg32=>?_)
          ·refine Y3 Z Z ?_
           refine Qv Tryz.call25 Z (s_WorkerNew (.slice none 0 0) [] _ (RdS.nil _) (by first | omega | (simp;done))) Z (fun _ w80 e60 ho33=>?_)
           obtain ⟨_,rfl,ho33⟩:=ho33
           have g_ho33 : w.heap.size ≤ w74.heap.size:=E.size
           replace E:=E.trans e60;replace hD1:=hD1.ext e60;replace hD2:=hD2.ext e60;replace h1:=h1.ext e60;replace h2:=h2.ext e60;replace hD3:=hD3.ext e60;replace h3:=h3.ext e60;replace hD5:=hD5.ext e60;replace h5:=h5.ext e60;replace hD7:=hD7.ext e60;replace h7:=h7.ext e60;replace hD9:=hD9.ext e60;replace h10:=h10.ext e60
           have z79:=e60.size
           have hD24:=Own1.rd ho33
           obtain ⟨o178,o179,o180,o181,o182,o183,o184,o185,rfl,_,_,_,_,_,_,_,_⟩:=Worker.op hD24
           clear ho33
           refine Y3 Z Z ?_
           refine Qv Tryz.call22 Z (c_Idle [o178,o179,o180,o181,o182,o183,o184,o185] (Yi []) _ (Dat.R.any hD24) (by rw [V2];exact Nat.le_of_ble_eq_true Z)) Z (fun _ w81 e61 hv=>?_)
           subst hv
           replace E:=E.trans e61;replace hD1:=hD1.ext e61;replace hD2:=hD2.ext e61;replace h1:=h1.ext e61;replace h2:=h2.ext e61;replace hD3:=hD3.ext e61;replace h3:=h3.ext e61;replace hD5:=hD5.ext e61;replace h5:=h5.ext e61;replace hD7:=hD7.ext e61;replace h7:=h7.ext e61;replace hD9:=hD9.ext e61;replace h10:=h10.ext e61;replace hD24:=hD24.ext e61
           have z80:=e61.size
           refine Qa (Qr Z Z) Z (Ql ⟨Z,Z,Z,Z,Z,Z,Z,Z,Z,congrArg (fun b=>some (Value.bool b)) (show (Ky (Yi [])) = ((((((!((Q2 dx1 dx2).2)) || (((((((Q2 dx1 dx2).1).queue).length : Nat) : Int) == (IntKind.i64.wrap (((dx2.queue.length : Nat) : Int) - 1))) && (Yc dx1 ((Q2 dx1 dx2).1)))) && ((!((Yd dx1 dx2).2)) || (((((((Yd dx1 dx2).1).inputs).length : Nat) : Int) == (IntKind.i64.wrap (((dx2.inputs.length : Nat) : Int) - 1))) && ((((((Yd dx1 dx2).1).queue).length : Nat) : Int) == 1)))) && (((Q2 dx1 dx2).2) || (decide (((Q2 dx1 dx2).1) = dx2)))) && (((((Yz dx3 dx4).queue).length : Nat) : Int) == (IntKind.i64.wrap (((dx3.queue.length : Nat) : Int) + 1)))) && (Ky (Yi []))) by first | (rw [hg10,hg22,hg23,hg24,hg29,hg30,hg31,hg32] <;> rfl) | (simp [hg10,hg22,hg23,hg24,hg29,hg30,hg31,hg32];done) | (simp only [Qp] <;> simp)),trivial⟩ ⟨E,(by omega),hD1,hD2,h1,h2,hD3,h3,hD5,h5,hD7,h7,hD9,h10⟩)
          ·refine Q1 Z Z Z Z ?_
           refine Q1 Z Z Z Z ?_
           refine Qa (Qq Z Z) Z (Ql ⟨Z,Z,Z,Z,Z,Z,Z,Z,Z,congrArg (fun b=>some (Value.bool b)) (show false = ((((((!((Q2 dx1 dx2).2)) || (((((((Q2 dx1 dx2).1).queue).length : Nat) : Int) == (IntKind.i64.wrap (((dx2.queue.length : Nat) : Int) - 1))) && (Yc dx1 ((Q2 dx1 dx2).1)))) && ((!((Yd dx1 dx2).2)) || (((((((Yd dx1 dx2).1).inputs).length : Nat) : Int) == (IntKind.i64.wrap (((dx2.inputs.length : Nat) : Int) - 1))) && ((((((Yd dx1 dx2).1).queue).length : Nat) : Int) == 1)))) && (((Q2 dx1 dx2).2) || (decide (((Q2 dx1 dx2).1) = dx2)))) && (((((Yz dx3 dx4).queue).length : Nat) : Int) == (IntKind.i64.wrap (((dx3.queue.length : Nat) : Int) + 1)))) && (Ky (Yi []))) by first | (rw [hg10,hg22,hg23,hg24,hg29,hg30,hg31,hg32] <;> rfl) | (simp [hg10,hg22,hg23,hg24,hg29,hg30,hg31,hg32];done) | (simp only [Qp] <;> simp)),trivial⟩ ⟨E,(by omega),hD1,hD2,h1,h2,hD3,h3,hD5,h5,hD7,h7,hD9,h10⟩)
         ·refine Qk Z Z (Qo Q7 Z h3.at Z) Z (Qk Z Z (Qo Q7 Z h2.at Z) Z ?_)
          refine Y3 Z Z ?_
          refine Qv Tryz.call10 Z (l_sameWorker [o10,o11,o12,o13,o14,o15,o16,o17] ((Q2 dx1 dx2).1) [o2,o3,o4,o5,o6,o7,o8,o9] dx2 _ (Dat.R.any hD3) (Dat.R.any hD2)) Z (fun _ w82 e62 hv=>?_)
          subst hv
          replace E:=E.trans e62;replace hD1:=hD1.ext e62;replace hD2:=hD2.ext e62;replace h1:=h1.ext e62;replace h2:=h2.ext e62;replace hD3:=hD3.ext e62;replace h3:=h3.ext e62;replace hD5:=hD5.ext e62;replace h5:=h5.ext e62;replace hD7:=hD7.ext e62;replace h7:=h7.ext e62;replace hD9:=hD9.ext e62;replace h10:=h10.ext e62
          have z81:=e62.size
          refine Qk Z Z (Qq Z Z) Z (Qa (Qr Z Z) Z (Qa (Qe Z) Z ?_))
          refine Ym (gd:=201) Z Z (fun hg33=>?_) (fun hg33=>?_)
          ·refine Qk Z Z (Qd Xj Z) Z (Qk Z Z (Qj Xi Z (h10.one 0 Z)) Z (Qk Z Z (Yg Tryz.underlying27 Z (Worker.opD hD9).1.len) Z (Qk Z Z (Qd Xj Z) Z (Qk Z Z (Qj Xi Z (h7.one 0 Z)) Z (Qk Z Z (Yg Tryz.underlying27 Z (Worker.opD hD7).1.len) Z (Qk Z Z (Yw Z Z Z) Z (Qk Z Z (Yq Z Z) Z (Qa (Qr Z Z) Z (Qa (Qe Z) Z ?_)))))))))
           refine Ym (gd:=211) Z Z (fun hg34=>?_) (fun hg34=>?_)
           ·refine Y3 Z Z ?_
            refine Qv Tryz.call25 Z (s_WorkerNew (.slice none 0 0) [] _ (RdS.nil _) (by first | omega | (simp;done))) Z (fun _ w83 e63 ho34=>?_)
            obtain ⟨_,rfl,ho34⟩:=ho34
            have g_ho34 : w.heap.size ≤ w82.heap.size:=E.size
            replace E:=E.trans e63;replace hD1:=hD1.ext e63;replace hD2:=hD2.ext e63;replace h1:=h1.ext e63;replace h2:=h2.ext e63;replace hD3:=hD3.ext e63;replace h3:=h3.ext e63;replace hD5:=hD5.ext e63;replace h5:=h5.ext e63;replace hD7:=hD7.ext e63;replace h7:=h7.ext e63;replace hD9:=hD9.ext e63;replace h10:=h10.ext e63
            have z82:=e63.size
            have hD25:=Own1.rd ho34
            obtain ⟨o186,o187,o188,o189,o190,o191,o192,o193,rfl,_,_,_,_,_,_,_,_⟩:=Worker.op hD25
            clear ho34
            refine Y3 Z Z ?_
            refine Qv Tryz.call22 Z (c_Idle [o186,o187,o188,o189,o190,o191,o192,o193] (Yi []) _ (Dat.R.any hD25) (by rw [V2];exact Nat.le_of_ble_eq_true Z)) Z (fun _ w84 e64 hv=>?_)
            subst hv
            replace E:=E.trans e64;replace hD1:=hD1.ext e64;replace hD2:=hD2.ext e64;replace h1:=h1.ext e64;replace h2:=h2.ext e64;replace hD3:=hD3.ext e64;replace h3:=h3.ext e64;replace hD5:=hD5.ext e64;replace h5:=h5.ext e64;replace hD7:=hD7.ext e64;replace h7:=h7.ext e64;replace hD9:=hD9.ext e64;replace h10:=h10.ext e64;replace hD25:=hD25.ext e64
            have z83:=e64.size
            refine Qa (Qr Z Z) Z (Ql ⟨Z,Z,Z,Z,Z,Z,Z,Z,Z,congrArg (fun b=>some (Value.bool b)) (show (Ky (Yi [])) = ((((((!((Q2 dx1 dx2).2)) || (((((((Q2 dx1 dx2).1).queue).length : Nat) : Int) == (IntKind.i64.wrap (((dx2.queue.length : Nat) : Int) - 1))) && (Yc dx1 ((Q2 dx1 dx2).1)))) && ((!((Yd dx1 dx2).2)) || (((((((Yd dx1 dx2).1).inputs).length : Nat) : Int) == (IntKind.i64.wrap (((dx2.inputs.length : Nat) : Int) - 1))) && ((((((Yd dx1 dx2).1).queue).length : Nat) : Int) == 1)))) && (((Q2 dx1 dx2).2) || (decide (((Q2 dx1 dx2).1) = dx2)))) && (((((Yz dx3 dx4).queue).length : Nat) : Int) == (IntKind.i64.wrap (((dx3.queue.length : Nat) : Int) + 1)))) && (Ky (Yi []))) by first | (rw [hg10,hg22,hg23,hg24,hg29,hg30,hg31,hg33,hg34] <;> rfl) | (simp [hg10,hg22,hg23,hg24,hg29,hg30,hg31,hg33,hg34];done) | (simp only [Qp] <;> simp)),trivial⟩ ⟨E,(by omega),hD1,hD2,h1,h2,hD3,h3,hD5,h5,hD7,h7,hD9,h10⟩)
           ·refine Q1 Z Z Z Z ?_
            refine Q1 Z Z Z Z ?_
            refine Qa (Qq Z Z) Z (Ql ⟨Z,Z,Z,Z,Z,Z,Z,Z,Z,congrArg (fun b=>some (Value.bool b)) (show false = ((((((!((Q2 dx1 dx2).2)) || (((((((Q2 dx1 dx2).1).queue).length : Nat) : Int) == (IntKind.i64.wrap (((dx2.queue.length : Nat) : Int) - 1))) && (Yc dx1 ((Q2 dx1 dx2).1)))) && ((!((Yd dx1 dx2).2)) || (((((((Yd dx1 dx2).1).inputs).length : Nat) : Int) == (IntKind.i64.wrap (((dx2.inputs.length : Nat) : Int) - 1))) && ((((((Yd dx1 dx2).1).queue).length : Nat) : Int) == 1)))) && (((Q2 dx1 dx2).2) || (decide (((Q2 dx1 dx2).1) = dx2)))) && (((((Yz dx3 dx4).queue).length : Nat) : Int) == (IntKind.i64.wrap (((dx3.queue.length : Nat) : Int) + 1)))) && (Ky (Yi []))) by first | (rw [hg10,hg22,hg23,hg24,hg29,hg30,hg31,hg33,hg34] <;> rfl) | (simp [hg10,hg22,hg23,hg24,hg29,hg30,hg31,hg33,hg34];done) | (simp only [Qp] <;> simp)),trivial⟩ ⟨E,(by omega),hD1,hD2,h1,h2,hD3,h3,hD5,h5,hD7,h7,hD9,h10⟩)
          ·refine Qc Z Z Z Z (Qc Z Z Z Z (Qc Z Z Z Z (Qc Z Z Z Z (Qc Z Z Z Z (Qc Z Z Z Z (Qc Z Z Z Z (Qc Z Z Z Z (Qa (Qq Z Z) Z (Qa (Qe Z) Z ?_)))))))))
           refine Q1 Z Z Z Z ?_
           refine Q1 Z Z Z Z ?_
           refine Qa (Qq Z Z) Z (Ql ⟨Z,Z,Z,Z,Z,Z,Z,Z,Z,congrArg (fun b=>some (Value.bool b)) (show false = ((((((!((Q2 dx1 dx2).2)) || (((((((Q2 dx1 dx2).1).queue).length : Nat) : Int) == (IntKind.i64.wrap (((dx2.queue.length : Nat) : Int) - 1))) && (Yc dx1 ((Q2 dx1 dx2).1)))) && ((!((Yd dx1 dx2).2)) || (((((((Yd dx1 dx2).1).inputs).length : Nat) : Int) == (IntKind.i64.wrap (((dx2.inputs.length : Nat) : Int) - 1))) && ((((((Yd dx1 dx2).1).queue).length : Nat) : Int) == 1)))) && (((Q2 dx1 dx2).2) || (decide (((Q2 dx1 dx2).1) = dx2)))) && (((((Yz dx3 dx4).queue).length : Nat) : Int) == (IntKind.i64.wrap (((dx3.queue.length : Nat) : Int) + 1)))) && (Ky (Yi []))) by first | (rw [hg10,hg22,hg23,hg24,hg29,hg30,hg31,hg33] <;> rfl) | (simp [hg10,hg22,hg23,hg24,hg29,hg30,hg31,hg33];done) | (simp only [Qp] <;> simp)),trivial⟩ ⟨E,(by omega),hD1,hD2,h1,h2,hD3,h3,hD5,h5,hD7,h7,hD9,h10⟩)
        ·have hg30n : ¬ (((Yd dx1 dx2).1).queue).length = 1:=by first | (have h:=of_decide_eq_false hg30;omega) | (have h:=hg30;simp at h;omega)
         refine Qc Z Z Z Z (Qc Z Z Z Z (Q3 Z Z Z (Q3 Z Z Z ?_)))
         refine H4 Z Z Z ?_
         refine Qc Z Z Z Z (Qa (Qq Z Z) Z (Qa (Qe Z) Z (Qc Z Z Z Z (Qc Z Z Z Z (Qc Z Z Z Z (Qc Z Z Z Z (Qc Z Z Z Z (Qc Z Z Z Z (Qc Z Z Z Z (Qc Z Z Z Z (Qa (Qq Z Z) Z (Qa (Qe Z) Z ?_))))))))))))
         refine Q1 Z Z Z Z ?_
         refine Q1 Z Z Z Z ?_
         refine Qa (Qq Z Z) Z (Ql ⟨Z,Z,Z,Z,Z,Z,Z,Z,Z,congrArg (fun b=>some (Value.bool b)) (show false = ((((((!((Q2 dx1 dx2).2)) || (((((((Q2 dx1 dx2).1).queue).length : Nat) : Int) == (IntKind.i64.wrap (((dx2.queue.length : Nat) : Int) - 1))) && (Yc dx1 ((Q2 dx1 dx2).1)))) && ((!((Yd dx1 dx2).2)) || (((((((Yd dx1 dx2).1).inputs).length : Nat) : Int) == (IntKind.i64.wrap (((dx2.inputs.length : Nat) : Int) - 1))) && ((((((Yd dx1 dx2).1).queue).length : Nat) : Int) == 1)))) && (((Q2 dx1 dx2).2) || (decide (((Q2 dx1 dx2).1) = dx2)))) && (((((Yz dx3 dx4).queue).length : Nat) : Int) == (IntKind.i64.wrap (((dx3.queue.length : Nat) : Int) + 1)))) && (Ky (Yi []))) by first | (rw [hg10,hg22,hg23,hg24,hg29,hg30] <;> rfl) | (simp [hg10,hg22,hg23,hg24,hg29,hg30];done) | (simp only [Qp] <;> simp)),trivial⟩ ⟨E,(by omega),hD1,hD2,h1,h2,hD3,h3,hD5,h5,hD7,h7,hD9,h10⟩)
       ·refine Qc Z Z Z Z (Qc Z Z Z Z (Qc Z Z Z Z (Qc Z Z Z Z (Qk Z Z (Qq Z Z) Z (Qk Z Z (Qq Z Z) Z (Qa (Qr Z Z) Z (Qa (Qe Z) Z (Qc Z Z Z Z (Qc Z Z Z Z (Q3 Z Z Z (Q3 Z Z Z ?_)))))))))))
        refine H4 Z Z Z ?_
        refine Qc Z Z Z Z (Qa (Qq Z Z) Z (Qa (Qe Z) Z (Qc Z Z Z Z (Qc Z Z Z Z (Qc Z Z Z Z (Qc Z Z Z Z (Qc Z Z Z Z (Qc Z Z Z Z (Qc Z Z Z Z (Qc Z Z Z Z (Qa (Qq Z Z) Z (Qa (Qe Z) Z ?_))))))))))))
        refine Q1 Z Z Z Z ?_
        refine Q1 Z Z Z Z ?_
        refine Qa (Qq Z Z) Z (Ql ⟨Z,Z,Z,Z,Z,Z,Z,Z,Z,congrArg (fun b=>some (Value.bool b)) (show false = ((((((!((Q2 dx1 dx2).2)) || (((((((Q2 dx1 dx2).1).queue).length : Nat) : Int) == (IntKind.i64.wrap (((dx2.queue.length : Nat) : Int) - 1))) && (Yc dx1 ((Q2 dx1 dx2).1)))) && ((!((Yd dx1 dx2).2)) || (((((((Yd dx1 dx2).1).inputs).length : Nat) : Int) == (IntKind.i64.wrap (((dx2.inputs.length : Nat) : Int) - 1))) && ((((((Yd dx1 dx2).1).queue).length : Nat) : Int) == 1)))) && (((Q2 dx1 dx2).2) || (decide (((Q2 dx1 dx2).1) = dx2)))) && (((((Yz dx3 dx4).queue).length : Nat) : Int) == (IntKind.i64.wrap (((dx3.queue.length : Nat) : Int) + 1)))) && (Ky (Yi []))) by first | (rw [hg10,hg22,hg23,hg24,hg29] <;> rfl) | (simp [hg10,hg22,hg23,hg24,hg29];done) | (simp only [Qp] <;> simp)),trivial⟩ ⟨E,(by omega),hD1,hD2,h1,h2,hD3,h3,hD5,h5,hD7,h7,hD9,h10⟩)
     ·refine Qc Z Z Z Z (Qc Z Z Z Z (Qc Z Z Z Z (Q3 Z Z Z (Q3 Z Z Z (Q3 Z Z Z (Q3 Z Z Z (Q3 Z Z Z (Q3 Z Z Z (Q3 Z Z Z (Q3 Z Z Z (Q3 Z Z Z (Q3 Z Z Z (Q3 Z Z Z (Q3 Z Z Z (Q3 Z Z Z (Q3 Z Z Z (Qc Z Z Z Z (Qa (Qq Z Z) Z (Qa (Qe Z) Z (Qc Z Z Z Z (Qc Z Z Z Z (Q3 Z Z Z (Q3 Z Z Z ?_)))))))))))))))))))))))
      refine H4 Z Z Z ?_
      refine Qc Z Z Z Z (Qa (Qq Z Z) Z (Qa (Qe Z) Z (Qc Z Z Z Z (Qc Z Z Z Z (Qc Z Z Z Z (Qc Z Z Z Z (Qc Z Z Z Z (Qc Z Z Z Z (Qc Z Z Z Z (Qc Z Z Z Z (Qa (Qq Z Z) Z (Qa (Qe Z) Z ?_))))))))))))
      refine Q1 Z Z Z Z ?_
      refine Q1 Z Z Z Z ?_
      refine Qa (Qq Z Z) Z (Ql ⟨Z,Z,Z,Z,Z,Z,Z,Z,Z,congrArg (fun b=>some (Value.bool b)) (show false = ((((((!((Q2 dx1 dx2).2)) || (((((((Q2 dx1 dx2).1).queue).length : Nat) : Int) == (IntKind.i64.wrap (((dx2.queue.length : Nat) : Int) - 1))) && (Yc dx1 ((Q2 dx1 dx2).1)))) && ((!((Yd dx1 dx2).2)) || (((((((Yd dx1 dx2).1).inputs).length : Nat) : Int) == (IntKind.i64.wrap (((dx2.inputs.length : Nat) : Int) - 1))) && ((((((Yd dx1 dx2).1).queue).length : Nat) : Int) == 1)))) && (((Q2 dx1 dx2).2) || (decide (((Q2 dx1 dx2).1) = dx2)))) && (((((Yz dx3 dx4).queue).length : Nat) : Int) == (IntKind.i64.wrap (((dx3.queue.length : Nat) : Int) + 1)))) && (Ky (Yi []))) by first | (rw [hg10,hg22,hg23] <;> rfl) | (simp [hg10,hg22,hg23];done) | (simp only [Qp] <;> simp)),trivial⟩ ⟨E,(by omega),hD1,hD2,h1,h2,hD3,h3,hD5,h5,hD7,h7,hD9,h10⟩)
    ·refine Qc Z Z Z Z (Qc Z Z Z Z ?_)
     refine Q1 Z Z Z Z ?_
     refine Qk Z Z (Qq Z Z) Z (Qa (Qq Z Z) Z (Qa (Qe Z) Z (Qc Z Z Z Z (Qc Z Z Z Z (Qc Z Z Z Z (Q3 Z Z Z (Q3 Z Z Z (Q3 Z Z Z (Q3 Z Z Z (Q3 Z Z Z (Q3 Z Z Z (Q3 Z Z Z (Q3 Z Z Z (Q3 Z Z Z (Q3 Z Z Z (Q3 Z Z Z (Q3 Z Z Z (Q3 Z Z Z (Q3 Z Z Z (Qc Z Z Z Z (Qa (Qq Z Z) Z (Qa (Qe Z) Z (Qc Z Z Z Z (Qc Z Z Z Z (Q3 Z Z Z (Q3 Z Z Z ?_))))))))))))))))))))))))))
     refine H4 Z Z Z ?_
     refine Qc Z Z Z Z (Qa (Qq Z Z) Z (Qa (Qe Z) Z (Qc Z Z Z Z (Qc Z Z Z Z (Qc Z Z Z Z (Qc Z Z Z Z (Qc Z Z Z Z (Qc Z Z Z Z (Qc Z Z Z Z (Qc Z Z Z Z (Qa (Qq Z Z) Z (Qa (Qe Z) Z ?_))))))))))))
     refine Q1 Z Z Z Z ?_
     refine Q1 Z Z Z Z ?_
     refine Qa (Qq Z Z) Z (Ql ⟨Z,Z,Z,Z,Z,Z,Z,Z,Z,congrArg (fun b=>some (Value.bool b)) (show false = ((((((!((Q2 dx1 dx2).2)) || (((((((Q2 dx1 dx2).1).queue).length : Nat) : Int) == (IntKind.i64.wrap (((dx2.queue.length : Nat) : Int) - 1))) && (Yc dx1 ((Q2 dx1 dx2).1)))) && ((!((Yd dx1 dx2).2)) || (((((((Yd dx1 dx2).1).inputs).length : Nat) : Int) == (IntKind.i64.wrap (((dx2.inputs.length : Nat) : Int) - 1))) && ((((((Yd dx1 dx2).1).queue).length : Nat) : Int) == 1)))) && (((Q2 dx1 dx2).2) || (decide (((Q2 dx1 dx2).1) = dx2)))) && (((((Yz dx3 dx4).queue).length : Nat) : Int) == (IntKind.i64.wrap (((dx3.queue.length : Nat) : Int) + 1)))) && (Ky (Yi []))) by first | (rw [hg10,hg22] <;> rfl) | (simp [hg10,hg22];done) | (simp only [Qp] <;> simp)),trivial⟩ ⟨E,(by omega),hD1,hD2,h1,h2,hD3,h3,hD5,h5,hD7,h7,hD9,h10⟩)
  clear E hD1 hD2 h1 h2 hD3 h3 hD5 h5 hD7 h7 hD9 h10
  rintro w63 ⟨E,z84,hD1,hD2,h1,h2,hD3,h3,hD5,h5,hD7,h7,hD9,h10⟩
  refine Qa (Qg Z) Z (Qf (Qx (Q0 Z Z E ?_)))
  exact congrArg Value.bool (working_fin dx1 dx2 dx3 (by assumption) (by assumption))

end Go.Proofs.YteljajfcppmeiaaGreat
