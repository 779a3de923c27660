/- What the functions that the laws call come to: a contract each; no condition. -/
import Derived.Test.YtjpoipdddpmeiaaGreatFns2
namespace Go.Proofs.YtjpoipdddpmeiaaGreat
open Go Go.Proofs.YtjpoipdddpmeiaaGreat.X Go.Proofs
set_option maxRecDepth 20000 in
theorem c_copyWorker (cx : List Value) (x : Worker) (w : World) (hx : Dat.R w 0 w.heap.size cx x) (hb : Q7 x ≤ 1048576) : Ct Tryz.prog 67 [.agg cx.toArray] w (fun v w'=>∃ cs,v = .agg cs.toArray ∧ Own1.O w' w.heap.size w'.heap.size cs x):=by
 unfold Q7 at hb
 refine Ym Tryz.func67 Z Tryz.ntmps67 Z ?_
 obtain ⟨o1,o2,o3,o4,o5,o6,o7,o8,rfl,hd1,hd2,hd3,hd4,hd5,hd6,hd7,hd8⟩:=Worker.op hx
 refine Q8 [(0,.agg [o1,o2,o3,o4,o5,o6,o7,o8].toArray)] ⟨Z,trivial⟩ ?_
 have E : Ext w w:=Ext.refl w
 refine Qe (Qh [false,false] Z Z (Y1 Z Z (fun b1 w1 e1 s1 h1=>?_)))
 have g_b1 : w.heap.size ≤ b1:=by have:=E.size;omega
 have y_b1:=h1.lt
 replace E:=E.trans e1
 have z1:=e1.size
 refine Yo X8 Z (fun b2 w2 e2 s2 h2=>?_)
 have g_b2 : w.heap.size ≤ b2:=by have:=E.size;omega
 have y_b2:=h2.lt
 replace E:=E.trans e2;replace h1:=h1.ext e2
 have z2:=e2.size
 refine Qc (Qe (Xx Xs [(0,true),(1,true),(3,true),(4,true),(6,true),(7,true),(9,true),(10,true),(12,true),(13,true),(15,true),(16,true),(18,true),(19,true),(21,true),(22,true),(2,false),(5,false),(8,false),(11,false),(14,false),(17,false),(20,false),(23,false),(24,true),(25,false)] (by decide +kernel) Z (fun w3 e3=>?_)))
 replace E:=E.trans e3;replace h1:=h1.ext e3;replace h2:=h2.ext e3
 have z3:=e3.size
 refine Qa (Qb V8 Z) Z (Qa (Qk Xq Z (h1.one 0 Z)) Z (Qa (Qb Un Z) Z (Qa (Qk Xq Z (h1.one 1 Z)) Z (Qa (Qb Vd Z) Z (Qa (Qk Xq Z (h1.one 2 Z)) Z (Qa (Qb Te Z) Z (Qa (Qk sc75 Z (h1.one 3 Z)) Z (Qa (Qb Vc Z) Z (Qa (Qk K0 Z (h1.one 4 Z)) Z (Qa (Qb Td Z) Z (Qa (Qk Hb Z (h1.one 5 Z)) Z (Qa (Qb Tc Z) Z (Qa (Qk Hb Z (h1.one 6 Z)) Z (Qa (Qb V7 Z) Z (Qa (Qk Aq Z (h1.one 7 Z)) Z (Qw Tryz.call114 Z (c_copyRecords o1 x.queue _ (hd1.rd.ext E) (by first | omega | (simp only [Qi];omega) | (rw [Qi];done) | (simp only [Qi];done))) Z (fun v1 w4 e4 ho1=>?_)))))))))))))))))
 have g_ho1 : w.heap.size ≤ w3.heap.size:=E.size
 replace E:=E.trans e4;replace h1:=h1.ext e4;replace h2:=h2.ext e4
 have z4:=e4.size
 refine Qw Tryz.call114 Z (c_copyRecords o2 x.staged _ (hd2.rd.ext E) (by first | omega | (simp only [Qi];omega) | (rw [Qi];done) | (simp only [Qi];done))) Z (fun v2 w5 e5 ho2=>?_)
 have g_ho2 : w.heap.size ≤ w4.heap.size:=E.size
 replace E:=E.trans e5;replace h1:=h1.ext e5;replace h2:=h2.ext e5;replace ho1:=ho1.ext e5
 have z5:=e5.size
 refine Qw Tryz.call114 Z (c_copyRecords o3 x.inputs _ (hd3.rd.ext E) (by first | omega | (simp only [Qi];omega) | (rw [Qi];done) | (simp only [Qi];done))) Z (fun v3 w6 e6 ho3=>?_)
 have g_ho3 : w.heap.size ≤ w5.heap.size:=E.size
 replace E:=E.trans e6;replace h1:=h1.ext e6;replace h2:=h2.ext e6;replace ho1:=ho1.ext e6;replace ho2:=ho2.ext e6
 have z6:=e6.size
 refine Qw Tryz.call115 Z (c_copyCells o4 x.cells _ (hd4.rd.ext E) (by first | omega | (simp only [Qi];omega) | (rw [Qi];done) | (simp only [Qi];done))) Z (fun v4 w7 e7 ho4=>?_)
 have g_ho4 : w.heap.size ≤ w6.heap.size:=E.size
 replace E:=E.trans e7;replace h1:=h1.ext e7;replace h2:=h2.ext e7;replace ho1:=ho1.ext e7;replace ho2:=ho2.ext e7;replace ho3:=ho3.ext e7
 have z7:=e7.size
 refine Vu Ux Z Z (Own.nil w7 w7.heap.size w7.heap.size 1) ⟨_,_,Z⟩ (RdS.src (hd5.rd.ext E)) (Xp _) (by simp only [Yz,List.length_nil];simp only [Enc.sz];omega) (by decide) (by omega) (by omega) Z (fun v5 w8 e8 ho5 hb_ho5=>?_)
 replace E:=E.trans e8;replace h1:=h1.ext e8;replace h2:=h2.ext e8;replace ho1:=ho1.ext e8;replace ho2:=ho2.ext e8;replace ho3:=ho3.ext e8;replace ho4:=ho4.ext e8
 have z8:=e8.size
 have g_ho5 : w.heap.size ≤ w7.heap.size:=by have:=E.size;omega
 replace ho5 : Own w8 w7.heap.size w8.heap.size 1 v5 (List.flatMap (Enc.enc (α:=Int)) x.sums):=ho5
 refine Vu Ap Z Z (Own.nil w8 w8.heap.size w8.heap.size 1) ⟨_,_,Z⟩ (RdS.src (hd6.rd.ext E)) (Xp _) (by simp only [Yz,List.length_nil];simp only [Enc.sz];omega) (by decide) (by omega) (by omega) Z (fun v6 w9 e9 ho6 hb_ho6=>?_)
 replace E:=E.trans e9;replace h1:=h1.ext e9;replace h2:=h2.ext e9;replace ho1:=ho1.ext e9;replace ho2:=ho2.ext e9;replace ho3:=ho3.ext e9;replace ho4:=ho4.ext e9;replace ho5:=ho5.ext e9
 have z9:=e9.size
 have g_ho6 : w.heap.size ≤ w8.heap.size:=by have:=E.size;omega
 replace ho6 : Own w9 w8.heap.size w9.heap.size 1 v6 (List.flatMap (Enc.enc (α:=Bool)) x.black):=ho6
 refine Vu Ap Z Z (Own.nil w9 w9.heap.size w9.heap.size 1) ⟨_,_,Z⟩ (RdS.src (hd7.rd.ext E)) (Xp _) (by simp only [Yz,List.length_nil];simp only [Enc.sz];omega) (by decide) (by omega) (by omega) Z (fun v7 w10 e10 ho7 hb_ho7=>?_)
 replace E:=E.trans e10;replace h1:=h1.ext e10;replace h2:=h2.ext e10;replace ho1:=ho1.ext e10;replace ho2:=ho2.ext e10;replace ho3:=ho3.ext e10;replace ho4:=ho4.ext e10;replace ho5:=ho5.ext e10;replace ho6:=ho6.ext e10
 have z10:=e10.size
 have g_ho7 : w.heap.size ≤ w9.heap.size:=by have:=E.size;omega
 replace ho7 : Own w10 w9.heap.size w10.heap.size 1 v7 (List.flatMap (Enc.enc (α:=Bool)) x.caps):=ho7
 refine Vu T1 Z Z (Own.nil w10 w10.heap.size w10.heap.size 2) ⟨_,_,Z⟩ (RdS.src (hd8.rd.ext E)) (Xp _) (by simp only [Yz,List.length_nil];simp only [Enc.sz];omega) (by decide) (by omega) (by omega) Z (fun v8 w11 e11 ho8 hb_ho8=>?_)
 replace E:=E.trans e11;replace h1:=h1.ext e11;replace h2:=h2.ext e11;replace ho1:=ho1.ext e11;replace ho2:=ho2.ext e11;replace ho3:=ho3.ext e11;replace ho4:=ho4.ext e11;replace ho5:=ho5.ext e11;replace ho6:=ho6.ext e11;replace ho7:=ho7.ext e11
 have z11:=e11.size
 have g_ho8 : w.heap.size ≤ w10.heap.size:=by have:=E.size;omega
 replace ho8 : Own w11 w10.heap.size w11.heap.size 2 v8 (List.flatMap (Enc.enc (α:=Done)) x.dones):=ho8
 have hbl1 : ∀ w,(Instr.build 80 ([(0,v1),(1,v2),(2,v3),(3,v4),(4,v5),(5,v6),(6,v7),(7,v8)]).toArray).run Tryz.prog w = .ok (.agg [v1,v2,v3,v4,v5,v6,v7,v8].toArray) w:=by clear E;obtain ⟨_,_,_,rfl⟩:=Own.shape ho1;obtain ⟨_,_,_,rfl⟩:=Own.shape ho2;obtain ⟨_,_,_,rfl⟩:=Own.shape ho3;obtain ⟨_,_,_,rfl⟩:=Own.shape ho4;obtain ⟨_,_,_,rfl⟩:=Own.shape ho5;obtain ⟨_,_,_,rfl⟩:=Own.shape ho6;obtain ⟨_,_,_,rfl⟩:=Own.shape ho7;obtain ⟨_,_,_,rfl⟩:=Own.shape ho8;intro w;kernel_rfl
 refine Qa (G9 [v1,v2,v3,v4,v5,v6,v7,v8] Z hbl1) Z (Q4 (cs':=[v1,v2,v3,v4,v5,v6,v7,v8]) X8 Z Z Z (Qj ho1.one (Qj ho2.one (Qj ho3.one (Qj ho4.one (Qj ho5.one (Qj ho6.one (Qj ho7.one (Qj ho8.one Z)))))))) h2 (Nat.le_of_ble_eq_true Z) Z (fun w12 m1 h2'=>?_))
 replace h2:=h2'
 replace E:=E.step m1 (fun g hg=>by cases hg;omega);replace h1:=h1.mod m1 (fun g hg=>by cases hg;omega);replace ho1:=ho1.mod m1 (fun g hg=>by cases hg;omega);replace ho2:=ho2.mod m1 (fun g hg=>by cases hg;omega);replace ho3:=ho3.mod m1 (fun g hg=>by cases hg;omega);replace ho4:=ho4.mod m1 (fun g hg=>by cases hg;omega);replace ho5:=ho5.mod m1 (fun g hg=>by cases hg;omega);replace ho6:=ho6.mod m1 (fun g hg=>by cases hg;omega);replace ho7:=ho7.mod m1 (fun g hg=>by cases hg;omega);replace ho8:=ho8.mod m1 (fun g hg=>by cases hg;omega)
 have z12:=m1.size
 refine Qc (Qv (X3 Z Z (Yd X8 h2.at Z) E ?_))
 exact ⟨_,Z,Worker.mkO x ⟨⟨(Own.sep ho1 ho2 (by omega)),⟨(Own.sep ho1 ho3 (by omega)),⟨(Own.sep ho1 ho4 (by omega)),⟨(Own.sep ho1 ho5 (by omega)),⟨(Own.sep ho1 ho6 (by omega)),⟨(Own.sep ho1 ho7 (by omega)),⟨(Own.sep ho1 ho8 (by omega)),trivial⟩⟩⟩⟩⟩⟩⟩,⟨⟨(Own.sep ho2 ho3 (by omega)),⟨(Own.sep ho2 ho4 (by omega)),⟨(Own.sep ho2 ho5 (by omega)),⟨(Own.sep ho2 ho6 (by omega)),⟨(Own.sep ho2 ho7 (by omega)),⟨(Own.sep ho2 ho8 (by omega)),trivial⟩⟩⟩⟩⟩⟩,⟨⟨(Own.sep ho3 ho4 (by omega)),⟨(Own.sep ho3 ho5 (by omega)),⟨(Own.sep ho3 ho6 (by omega)),⟨(Own.sep ho3 ho7 (by omega)),⟨(Own.sep ho3 ho8 (by omega)),trivial⟩⟩⟩⟩⟩,⟨⟨(Own.sep ho4 ho5 (by omega)),⟨(Own.sep ho4 ho6 (by omega)),⟨(Own.sep ho4 ho7 (by omega)),⟨(Own.sep ho4 ho8 (by omega)),trivial⟩⟩⟩⟩,⟨⟨(Own.sep ho5 ho6 (by omega)),⟨(Own.sep ho5 ho7 (by omega)),⟨(Own.sep ho5 ho8 (by omega)),trivial⟩⟩⟩,⟨⟨(Own.sep ho6 ho7 (by omega)),⟨(Own.sep ho6 ho8 (by omega)),trivial⟩⟩,⟨⟨(Own.sep ho7 ho8 (by omega)),trivial⟩,⟨trivial,trivial⟩⟩⟩⟩⟩⟩⟩⟩ (Own.widen ho1 (by omega) (by omega)) (Own.widen ho2 (by omega) (by omega)) (Own.widen ho3 (by omega) (by omega)) (Own.widen ho4 (by omega) (by omega)) (Own.widen ho5 (by omega) (by omega)) (Own.widen ho6 (by omega) (by omega)) (Own.widen ho7 (by omega) (by omega)) (Own.widen ho8 (by omega) (by omega))⟩

set_option maxHeartbeats 4000000 in
set_option maxRecDepth 20000 in
theorem s_l12Copy (cx : List Value) (x : Worker) (w : World) (hx : Dat.R w 0 w.heap.size cx x) (hb : Q7 x ≤ 1048576) : Ct Tryz.prog 100 [.agg cx.toArray] w (fun v w'=>∃ cs,v = .agg cs.toArray ∧ Own1.O w' w.heap.size w'.heap.size cs x):=by
 unfold Q7 at hb
 refine Ym Tryz.func100 Z Tryz.ntmps100 Z ?_
 obtain ⟨o1,o2,o3,o4,o5,o6,o7,o8,rfl,hd1,hd2,hd3,hd4,hd5,hd6,hd7,hd8⟩:=Worker.op hx
 refine Q8 [(0,.agg [o1,o2,o3,o4,o5,o6,o7,o8].toArray)] ⟨Z,trivial⟩ ?_
 have E : Ext w w:=Ext.refl w
 refine Qe (Qh [false,false] Z Z (Y1 Z Z (fun b1 w1 e1 s1 h1=>?_)))
 have g_b1 : w.heap.size ≤ b1:=by have:=E.size;omega
 have y_b1:=h1.lt
 replace E:=E.trans e1
 have z1:=e1.size
 refine Yo X8 Z (fun b2 w2 e2 s2 h2=>?_)
 have g_b2 : w.heap.size ≤ b2:=by have:=E.size;omega
 have y_b2:=h2.lt
 replace E:=E.trans e2;replace h1:=h1.ext e2
 have z2:=e2.size
 refine Qc (Qe (S_regP Xs [(1,true),(2,true),(5,true),(6,true),(9,true),(10,true),(13,true),(14,true),(17,true),(18,true),(21,true),(22,true),(25,true),(26,true),(29,true),(30,true)] [⟨0,3,5,[],true,none,none⟩,⟨3,6,5,List.flatMap (Enc.enc (α:=Record)) x.queue,false,some (0,3),none⟩,⟨4,7,5,[],true,none,none⟩,⟨7,10,5,List.flatMap (Enc.enc (α:=Record)) x.staged,false,some (4,7),none⟩,⟨8,11,5,[],true,none,none⟩,⟨11,14,5,List.flatMap (Enc.enc (α:=Record)) x.inputs,false,some (8,11),none⟩,⟨12,15,4,[],true,none,none⟩,⟨15,18,4,List.flatMap (Enc.enc (α:=Cell)) x.cells,false,some (12,15),none⟩,⟨16,19,1,[],true,none,none⟩,⟨19,22,1,List.flatMap (Enc.enc (α:=Int)) x.sums,false,some (16,19),none⟩,⟨20,23,1,[],true,none,none⟩,⟨23,26,1,List.flatMap (Enc.enc (α:=Bool)) x.black,false,some (20,23),none⟩,⟨24,27,1,[],true,none,none⟩,⟨27,30,1,List.flatMap (Enc.enc (α:=Bool)) x.caps,false,some (24,27),none⟩,⟨28,31,2,[],true,none,none⟩,⟨31,34,2,List.flatMap (Enc.enc (α:=Done)) x.dones,false,some (28,31),none⟩] [(32,true),(33,false)] (by kernel_rfl) Z Z [(0,.agg [o1,o2,o3,o4,o5,o6,o7,o8].toArray),(1,.pointer (some ⟨b1,0,none⟩)),(2,.pointer (some ⟨b2,0,none⟩)),(4,.pointer (some ⟨b1,0,none⟩)),(5,o1),(8,.pointer (some ⟨b1,1,none⟩)),(9,o2),(12,.pointer (some ⟨b1,2,none⟩)),(13,o3),(16,.pointer (some ⟨b1,3,none⟩)),(17,o4),(20,.pointer (some ⟨b1,4,none⟩)),(21,o5),(24,.pointer (some ⟨b1,5,none⟩)),(25,o6),(28,.pointer (some ⟨b1,6,none⟩)),(29,o7),(32,.pointer (some ⟨b1,7,none⟩)),(33,o8)] (fun w'=>Ext w w' ∧ w2.heap.size ≤ w'.heap.size ∧ Blk w' b1 ([o1,o2,o3,o4,o5,o6,o7,o8]) ∧ Blk w' b2 [.slice none 0 0,.slice none 0 0,.slice none 0 0,.slice none 0 0,.slice none 0 0,.slice none 0 0,.slice none 0 0,.slice none 0 0]) (fun w3 e3=>?_) (fun w3 hphi_w3=>?_)))
 ·replace E:=E.trans e3;replace h1:=h1.ext e3;replace h2:=h2.ext e3
  have z3:=e3.size
  refine Qa (Qb V8 Z) Z (Qa (Qk Xq Z (h1.one 0 Z)) Z (Qa (Qb Un Z) Z (Qa (Qk Xq Z (h1.one 1 Z)) Z (Qa (Qb Vd Z) Z (Qa (Qk Xq Z (h1.one 2 Z)) Z (Qa (Qb Te Z) Z (Qa (Qk sc75 Z (h1.one 3 Z)) Z (Qa (Qb Vc Z) Z (Qa (Qk K0 Z (h1.one 4 Z)) Z (Qa (Qb Td Z) Z (Qa (Qk Hb Z (h1.one 5 Z)) Z (Qa (Qb Tc Z) Z (Qa (Qk Hb Z (h1.one 6 Z)) Z (Qa (Qb V7 Z) Z (Qa (Qk Aq Z (h1.one 7 Z)) Z (Qr ⟨Z,Z,Z,Z,Z,Z,Z,Z,Z,Z,Z,Z,Z,Z,Z,Z,Z,Z,Z,trivial⟩ ⟨E,(by omega),h1,h2⟩))))))))))))))))
 clear E h1 h2
 obtain ⟨E,z4,h1,h2⟩:=hphi_w3
 refine ⟨⟨⟨_,Z,Z,Z,Z,?_⟩,⟨_,Z,Z,Z,Z,?_⟩,⟨_,Z,Z,Z,Z,?_⟩,⟨_,Z,Z,Z,Z,?_⟩,⟨_,Z,Z,Z,Z,?_⟩,⟨_,Z,Z,Z,Z,?_⟩,⟨_,Z,Z,Z,Z,?_⟩,⟨_,Z,Z,Z,Z,?_⟩,⟨_,Z,Z,Z,Z,?_⟩,⟨_,Z,Z,Z,Z,?_⟩,⟨_,Z,Z,Z,Z,?_⟩,⟨_,Z,Z,Z,Z,?_⟩,⟨_,Z,Z,Z,Z,?_⟩,⟨_,Z,Z,Z,Z,?_⟩,⟨_,Z,Z,Z,Z,?_⟩,⟨_,Z,Z,Z,Z,?_⟩,trivial⟩,fun w4 e4=>?_⟩
 ·exact Vg Kn
 ·exact Vh Kn Z (fun _ eX=>RdS.src (RdS.ext (hd1.rd.ext E) eX)) (Xp _) (by simp only [Yz,List.length_nil];simp only [Enc.sz];omega) (by decide)
 ·exact Vg Kn
 ·exact Vh Kn Z (fun _ eX=>RdS.src (RdS.ext (hd2.rd.ext E) eX)) (Xp _) (by simp only [Yz,List.length_nil];simp only [Enc.sz];omega) (by decide)
 ·exact Vg Kn
 ·exact Vh Kn Z (fun _ eX=>RdS.src (RdS.ext (hd3.rd.ext E) eX)) (Xp _) (by simp only [Yz,List.length_nil];simp only [Enc.sz];omega) (by decide)
 ·exact Vg H2
 ·exact Vh H2 Z (fun _ eX=>RdS.src (RdS.ext (hd4.rd.ext E) eX)) (Xp _) (by simp only [Yz,List.length_nil];simp only [Enc.sz];omega) (by decide)
 ·exact Vg Ux
 ·exact Vh Ux Z (fun _ eX=>RdS.src (RdS.ext (hd5.rd.ext E) eX)) (Xp _) (by simp only [Yz,List.length_nil];simp only [Enc.sz];omega) (by decide)
 ·exact Vg Ap
 ·exact Vh Ap Z (fun _ eX=>RdS.src (RdS.ext (hd6.rd.ext E) eX)) (Xp _) (by simp only [Yz,List.length_nil];simp only [Enc.sz];omega) (by decide)
 ·exact Vg Ap
 ·exact Vh Ap Z (fun _ eX=>RdS.src (RdS.ext (hd7.rd.ext E) eX)) (Xp _) (by simp only [Yz,List.length_nil];simp only [Enc.sz];omega) (by decide)
 ·exact Vg T1
 ·exact Vh T1 Z (fun _ eX=>RdS.src (RdS.ext (hd8.rd.ext E) eX)) (Xp _) (by simp only [Yz,List.length_nil];simp only [Enc.sz];omega) (by decide)
 intro v1 f1 ho1 v2 f2 ho2 v3 f3 ho3 v4 f4 ho4 v5 f5 ho5 v6 f6 ho6 v7 f7 ho7 v8 f8 ho8 v9 f9 ho9 v10 f10 ho10 v11 f11 ho11 v12 f12 ho12 v13 f13 ho13 v14 f14 ho14 v15 f15 ho15 v16 f16 ho16 sp1
 obtain ⟨ho1,rfl⟩:=ho1
 obtain ⟨ho2,rfl⟩:=ho2
 obtain ⟨ho3,rfl⟩:=ho3
 obtain ⟨ho4,rfl⟩:=ho4
 obtain ⟨ho5,rfl⟩:=ho5
 obtain ⟨ho6,rfl⟩:=ho6
 obtain ⟨ho7,rfl⟩:=ho7
 obtain ⟨ho8,rfl⟩:=ho8
 obtain ⟨ho9,rfl⟩:=ho9
 obtain ⟨ho10,rfl⟩:=ho10
 obtain ⟨ho11,rfl⟩:=ho11
 obtain ⟨ho12,rfl⟩:=ho12
 obtain ⟨ho13,rfl⟩:=ho13
 obtain ⟨ho14,rfl⟩:=ho14
 obtain ⟨ho15,rfl⟩:=ho15
 obtain ⟨ho16,rfl⟩:=ho16
 replace sp1 : SepL [v2,v4,v6,v8,v10,v12,v14,v16]:=DjL.toSep (vs:=[v2,v4,v6,v8,v10,v12,v14,v16]) sp1
 have g_sp1 : w.heap.size ≤ w3.heap.size:=E.size
 replace E:=E.trans e4;replace h1:=h1.ext e4;replace h2:=h2.ext e4
 have z5:=e4.size
 clear ho1
 replace ho2 : Own w4 w3.heap.size w4.heap.size 5 v2 (List.flatMap (Enc.enc (α:=Record)) x.queue):=ho2
 clear ho3
 replace ho4 : Own w4 w3.heap.size w4.heap.size 5 v4 (List.flatMap (Enc.enc (α:=Record)) x.staged):=ho4
 clear ho5
 replace ho6 : Own w4 w3.heap.size w4.heap.size 5 v6 (List.flatMap (Enc.enc (α:=Record)) x.inputs):=ho6
 clear ho7
 replace ho8 : Own w4 w3.heap.size w4.heap.size 4 v8 (List.flatMap (Enc.enc (α:=Cell)) x.cells):=ho8
 clear ho9
 replace ho10 : Own w4 w3.heap.size w4.heap.size 1 v10 (List.flatMap (Enc.enc (α:=Int)) x.sums):=ho10
 clear ho11
 replace ho12 : Own w4 w3.heap.size w4.heap.size 1 v12 (List.flatMap (Enc.enc (α:=Bool)) x.black):=ho12
 clear ho13
 replace ho14 : Own w4 w3.heap.size w4.heap.size 1 v14 (List.flatMap (Enc.enc (α:=Bool)) x.caps):=ho14
 clear ho15
 replace ho16 : Own w4 w3.heap.size w4.heap.size 2 v16 (List.flatMap (Enc.enc (α:=Done)) x.dones):=ho16
 refine J_sub [(0,.agg [o1,o2,o3,o4,o5,o6,o7,o8].toArray),(1,.pointer (some ⟨b1,0,none⟩)),(2,.pointer (some ⟨b2,0,none⟩)),(4,.pointer (some ⟨b1,0,none⟩)),(5,o1),(6,v2),(8,.pointer (some ⟨b1,1,none⟩)),(9,o2),(10,v4),(12,.pointer (some ⟨b1,2,none⟩)),(13,o3),(14,v6),(16,.pointer (some ⟨b1,3,none⟩)),(17,o4),(18,v8),(20,.pointer (some ⟨b1,4,none⟩)),(21,o5),(22,v10),(24,.pointer (some ⟨b1,5,none⟩)),(25,o6),(26,v12),(28,.pointer (some ⟨b1,6,none⟩)),(29,o7),(30,v14),(32,.pointer (some ⟨b1,7,none⟩)),(33,o8),(34,v16)] ⟨Z,Z,Z,Z,Z,Z,Z,Z,Z,Z,Z,Z,Z,Z,Z,Z,Z,Z,Z,Z,Z,Z,Z,Z,Z,Z,Z,trivial⟩ ?_
 have hbl1 : ∀ w,(Instr.build 80 ([(0,v2),(1,v4),(2,v6),(3,v8),(4,v10),(5,v12),(6,v14),(7,v16)]).toArray).run Tryz.prog w = .ok (.agg [v2,v4,v6,v8,v10,v12,v14,v16].toArray) w:=by clear E;obtain ⟨_,_,_,rfl⟩:=Own.shape ho2;obtain ⟨_,_,_,rfl⟩:=Own.shape ho4;obtain ⟨_,_,_,rfl⟩:=Own.shape ho6;obtain ⟨_,_,_,rfl⟩:=Own.shape ho8;obtain ⟨_,_,_,rfl⟩:=Own.shape ho10;obtain ⟨_,_,_,rfl⟩:=Own.shape ho12;obtain ⟨_,_,_,rfl⟩:=Own.shape ho14;obtain ⟨_,_,_,rfl⟩:=Own.shape ho16;intro w;kernel_rfl
 refine Qa (G9 [v2,v4,v6,v8,v10,v12,v14,v16] Z hbl1) Z (Q4 (cs':=[v2,v4,v6,v8,v10,v12,v14,v16]) X8 Z Z Z (Qj ho2.one (Qj ho4.one (Qj ho6.one (Qj ho8.one (Qj ho10.one (Qj ho12.one (Qj ho14.one (Qj ho16.one Z)))))))) h2 (Nat.le_of_ble_eq_true Z) Z (fun w5 m1 h2'=>?_))
 replace h2:=h2'
 replace E:=E.step m1 (fun g hg=>by cases hg;omega);replace h1:=h1.mod m1 (fun g hg=>by cases hg;omega);replace ho2:=ho2.mod m1 (fun g hg=>by cases hg;omega);replace ho4:=ho4.mod m1 (fun g hg=>by cases hg;omega);replace ho6:=ho6.mod m1 (fun g hg=>by cases hg;omega);replace ho8:=ho8.mod m1 (fun g hg=>by cases hg;omega);replace ho10:=ho10.mod m1 (fun g hg=>by cases hg;omega);replace ho12:=ho12.mod m1 (fun g hg=>by cases hg;omega);replace ho14:=ho14.mod m1 (fun g hg=>by cases hg;omega);replace ho16:=ho16.mod m1 (fun g hg=>by cases hg;omega)
 have z6:=m1.size
 refine Qc (Qv (X3 Z Z (Yd X8 h2.at Z) E ?_))
 exact ⟨_,Z,Worker.mkO x sp1 (Own.widen ho2 (by omega) (by omega)) (Own.widen ho4 (by omega) (by omega)) (Own.widen ho6 (by omega) (by omega)) (Own.widen ho8 (by omega) (by omega)) (Own.widen ho10 (by omega) (by omega)) (Own.widen ho12 (by omega) (by omega)) (Own.widen ho14 (by omega) (by omega)) (Own.widen ho16 (by omega) (by omega))⟩

set_option maxRecDepth 20000 in
theorem markNodeS (vxs : Value) (lo hi : Nat) (fp : List Nat) (xs : List Node) (k : Nat) (w : World) (gxs : OwF w lo hi vxs xs fp) (hhi : hi ≤ w.heap.size) (hb : k + 4 * X0 Xy xs ≤ 1099511627776) : CtR Tryz.prog 77 [vxs,.int .i64 ((k : Nat) : Int)] w lo hi (fun v w'=>v = .int .i64 (((Xt Ka) k xs : Nat) : Int) ∧ OwF w' lo hi vxs ((Xz Ka Uz) k xs) fp ∧ Kq w w' fp):=by
 have hxs : OwK w fp w lo hi vxs xs:=⟨gxs,Kq.refl _ _⟩
 have hmx : xs.length ≤ maxLen:=hxs.rd.1.1
 unfold maxLen at hmx
 refine V0 Tryz.func77 Z Tryz.ntmps77 Z ?_
 refine Q8 [(0,vxs),(1,.int .i64 ((k : Nat) : Int))] ⟨Z,Z,trivial⟩ ?_
 have E : ModR w w lo hi:=ModR.refl w lo hi
 refine Qe (Qh [true] Z Z (Qa (Qf Z) Z (Qc (Qe (Qe (Qh [true] Z Z (Qa (Qf Z) Z (Qc (Q0 (Yp (fun (xq : Nat × Nat)=>let ⟨i,q⟩:=xq;[(0,vxs),(1,.int .i64 ((q : Nat) : Int)),(4,.int .i64 0),(5,.int .i64 ((i : Nat) : Int))]) (fun (xq : Nat × Nat) w'=>let ⟨i,q⟩:=xq;ModR w w' lo hi ∧ w.heap.size ≤ w'.heap.size ∧ i ≤ xs.length ∧ q = (Xt Ka) k (xs.take i) ∧ OwK w fp w' lo hi vxs ((Xz Ka Uz) k (xs.take i) ++ xs.drop i)) (fun (xq : Nat × Nat)=>let ⟨i,q⟩:=xq;xs.length - i) (0,k) ⟨Z,Z,Z,Z,trivial⟩ ⟨E,Nat.le_refl _,Nat.zero_le _,Z,(by simpa [Xz] using hxs)⟩ ?_))))))))))
 clear E hxs
 rintro ⟨i,q⟩ w1 ⟨E,z1,hi0,hq,hxs⟩
 refine Q8 [(0,vxs),(1,.int .i64 ((q : Nat) : Int)),(4,.int .i64 0),(5,.int .i64 ((i : Nat) : Int))] ⟨Z,Z,Z,Z,trivial⟩ ?_
 refine Qe (Qe (Qh [true,true,true,true] Z Z (Qa (Qd Z) Z (Qa (Qd Z) Z (Qa (Yc Tryz.underlying32 Z (OwK.lenE (n:=xs.length) hxs (by simp [Ua];omega))) Z (Qa (Yi Z Z) Z (Qc (Qt Z (fun hc1=>?_) (fun hc1=>?_)))))))))
 ·have hlt : i < xs.length:=by have h:=of_decide_eq_true hc1;omega
  rw [C5 hlt] at hxs
  obtain ⟨_,ho1,hrow⟩:=OwK.focus hxs
  obtain ⟨o1,rfl,sp1,hw1⟩:=Node.opO ho1
  clear hxs
  have hl0 : ((Xz Ka Uz) k (xs.take i)).length = i:=by rw [Ua];simp;omega
  have hn0 : i + 1 + (xs.drop (i + 1)).length = xs.length:=by simp;omega
  have hqk:=Cf (k:=k) Ab hlt;rw [← hq] at hqk;unfold Ka at hqk
  have hc1n : i < xs.length:=by first | (have h:=of_decide_eq_true hc1;omega) | (have h:=hc1;simp at h;omega)
  refine Qo (Qe (Q0 (Qe (Qh [true,true,true,true,true,false] Z Z (Qa (Qd Z) Z (Qa (Qd Z) Z (Qa (Qd Z) Z (Qa (Qz (i:=i) G0 Z Z (RowK.same1 hrow hl0 hn0) (by simp;omega)) Z (Qa (Qs Kj Z) Z ?_)))))))))
  have hq1:=RowK.sep hrow (u:=o1) (by simp)
  have hqb:=RowK.blk hrow
  refine Ur (i:=i) (f:=0) (cs':=[.int .i64 ((q : Nat) : Int),.int .i64 ((xs[i]'hlt).a),.int .i64 ((xs[i]'hlt).b),o1]) Yt Z Z Z Z hrow hl0 (by decide) Z Z (fun w2 m1 hrow'=>?_)
  replace hrow:=hrow'
  replace E:=E.mod m1 (fun g hg=>by have:=hqb g hg;omega);replace hw1:=Own.modS hw1 m1 hq1
  have z2:=m1.size
  clear hqb hq1
  refine Qc (Qe (Qh [true,true,true] Z Z (Qa (Qd Z) Z (Qa (Ye Z Z (Yg (by unfold maxLen;omega))) Z (Qa (Qf Z) Z (Qc (Qe (Qh [true,true,true,true,true,false] Z Z (Qa (Qd Z) Z (Qa (Qd Z) Z (Qa (Qd Z) Z (Qa (Qz (i:=i) G0 Z Z (RowK.same1 hrow hl0 hn0) (by simp;omega)) Z (Qa (Qs Kx Z) Z ?_)))))))))))))
  have hq2:=RowK.sep hrow (u:=o1) (by simp)
  have hqb:=RowK.blk hrow
  refine Ur (i:=i) (f:=1) (cs':=[.int .i64 ((q : Nat) : Int),.int .i64 ((q + 1 : Nat) : Int),.int .i64 ((xs[i]'hlt).b),o1]) Yt Z Z Z Z hrow hl0 (by decide) Z Z (fun w3 m2 hrow'=>?_)
  replace hrow:=hrow'
  replace E:=E.mod m2 (fun g hg=>by have:=hqb g hg;omega);replace hw1:=Own.modS hw1 m2 hq2
  have z3:=m2.size
  clear hqb hq2
  refine Qc (Qe (Qh [true,true,true] Z Z (Qa (Qd Z) Z (Qa (Ye Z Z (Yg (by unfold maxLen;omega))) Z (Qa (Qf Z) Z (Qc (Qe (Qh [true,true,true,true,true,false] Z Z (Qa (Qd Z) Z (Qa (Qd Z) Z (Qa (Qd Z) Z (Qa (Qz (i:=i) G0 Z Z (RowK.same1 hrow hl0 hn0) (by simp;omega)) Z (Qa (Qs Ut Z) Z ?_)))))))))))))
  have hq3:=RowK.sep hrow (u:=o1) (by simp)
  have hqb:=RowK.blk hrow
  refine Ur (i:=i) (f:=2) (cs':=[.int .i64 ((q : Nat) : Int),.int .i64 ((q + 1 : Nat) : Int),.int .i64 ((q + 1 + 1 : Nat) : Int),o1]) Yt Z Z Z Z hrow hl0 (by decide) Z Z (fun w4 m3 hrow'=>?_)
  replace hrow:=hrow'
  replace E:=E.mod m3 (fun g hg=>by have:=hqb g hg;omega);replace hw1:=Own.modS hw1 m3 hq3
  have z4:=m3.size
  clear hqb hq3
  refine Qc (Qe (Qh [true,true,true] Z Z (Qa (Qd Z) Z (Qa (Ye Z Z (Yg (by unfold maxLen;omega))) Z (Qa (Qf Z) Z (Qc (Qh [true,true,true,true,true,true,false,true] Z Z (Qa (Qd Z) Z (Qa (Qd Z) Z (Qa (Qz (i:=i) G0 Z Z (RowK.same1 hrow hl0 hn0) (by simp;omega)) Z (Qa (Qs Xu Z) Z (Qa (Qk K0 Z ((RowK.at hrow hl0).one 3 Z)) Z (Qa (Qd Z) Z (Km Tryz.call80 Z Z (markIntS o1 (bl o1) (bh o1) ((xs[i]'hlt).outs) (q + 1 + 1 + 1) _ (Own.tight hw1) (by first | omega | (simp only [Qi];omega) | (rw [Qi];done) | (simp only [Qi];done))) Z (fun _ w5 e1 hv=>?_)))))))))))))))
  obtain ⟨rfl,hw1'⟩:=hv
  have e1c:=ModR.loose e1 (Own.blk hw1)
  replace hw1:=Own.loose hw1' (Own.blk hw1)
  clear hw1'
  replace E:=E.trans e1c (by omega) (by omega);replace hrow:=RowK.modRS hrow e1 (by simp)
  have z5:=e1c.size
  refine Qa (Qf Z) Z (Qc (Q6 (Y0 (Qh [true,true,true] Z Z (Qa (Qd Z) Z (Qa (Ye Z Z (Yg (by unfold maxLen;omega))) Z (Qa (Qf Z) Z (Qc ?_))))))))
  have hxs:=RowK.close hrow (Node.mkO (⟨((q : Nat) : Int),((q + 1 : Nat) : Int),((q + 1 + 1 : Nat) : Int),Vv 1 Ae (q + 1 + 1 + 1) ((xs[i]'hlt).outs).length⟩ : Node) sp1 (Own.widen hw1 (by omega) (by omega)))
  refine Q6 (Yk (i + 1,(q + 1 + 1 + 1) + 1 * ((xs[i]'hlt).outs).length) (by simp;omega) ⟨Z,Z,Z,Z,trivial⟩ ⟨E,(by omega),(by omega),(by rw [V5 hlt,← hq];rfl),(by rw [H8 hlt,← hq];exact hxs)⟩)
 ·have hc1n : ¬ i < xs.length:=by first | (have h:=of_decide_eq_false hc1;omega) | (have h:=hc1;simp at h;omega)
  refine Yq (Q5 (Q3 ?_))
  refine Qe (Qh [true,true] Z Z (Qa (Qd Z) Z (Qa (Qf Z) Z (Qc (Qv (Qm Z Z E ?_))))))
  have hi9 : xs.length ≤ i:=by have h:=of_decide_eq_false hc1;omega
  rw [List.take_of_length_le hi9] at hq hxs
  rw [List.drop_of_length_le hi9,List.append_nil] at hxs
  exact ⟨by rw [hq],hxs.1,hxs.2⟩

set_option maxRecDepth 20000 in
theorem markGraph (ox : Value) (lo hi : Nat) (fp : List Nat) (x : Graph) (k : Nat) (w : World) (hx : OwF w lo hi ox x.nodes fp) (hhi : hi ≤ w.heap.size) (hb : k + 4 * Xe x ≤ 1099511627776) : CtR Tryz.prog 35 [.agg [ox,.int .i64 x.workers,.int .i64 x.cap].toArray,.int .i64 ((k : Nat) : Int)] w lo hi (fun v w'=>v = .int .i64 ((Xt Ka k x.nodes : Nat) : Int) ∧ OwF w' lo hi ox (Xz Ka Uz k x.nodes) fp ∧ Kq w w' fp):=by
 unfold Xe at hb
 refine V0 Tryz.func35 Z Tryz.ntmps35 Z ?_
 refine Q8 [(0,.agg [ox,.int .i64 x.workers,.int .i64 x.cap].toArray),(1,.int .i64 ((k : Nat) : Int))] ⟨Z,Z,trivial⟩ ?_
 have E : ModR w w lo hi:=ModR.refl w lo hi
 refine Qe (Qh [false,true] Z Z (Y1 Z Z (fun b1 w1 e1 s1 h1=>?_)))
 have g_b1 : w.heap.size ≤ b1:=by have:=E.size;omega
 have y_b1:=h1.lt
 replace E:=E.ext e1;replace hx:=hx.ext e1
 have z1:=e1.size
 refine Qa (Qf Z) Z (Qc (Qe (Qh [true,true,true,false,true] Z Z (Qa (Qb Kw Z) Z (Qa (Qk Gn Z (h1.one 0 Z)) Z (Qa (Qd Z) Z (Km Tryz.call77 Z Z (markNodeS ox lo hi fp x.nodes k _ hx (by omega) (by first | omega | (simp only [Qi];omega) | (rw [Qi];done) | (simp only [Qi];done))) Z (fun _ w2 e2 hv=>?_))))))))
 obtain ⟨rfl,hx',kq1⟩:=hv
 replace hx:=hx'
 replace E:=E.trans e2 (by omega) (by omega);replace h1:=h1.modR e2 (by omega)
 have z2:=e2.size
 refine Qa (Qf Z) Z (Qc (Qe (Qh [true,true] Z Z (Qa (Qd Z) Z (Qa (Qf Z) Z (Qc (Qv (Qm Z Z E ?_))))))))
 exact ⟨Z,hx,(by first | exact kq1 | exact Kq.trans (Ext.kq e1 _) kq1)⟩

set_option maxRecDepth 20000 in
theorem c_Kept (cx : List Value) (x : Worker) (r : Record) (w : World) (hx : Dat.R w 0 w.heap.size cx x) (hb : Q7 x ≤ 1048576) : Ct Tryz.prog 49 [.agg cx.toArray,.agg (Enc.enc r).toArray] w (fun v w'=>∃ cs,v = .agg cs.toArray ∧ Own1.O w' w.heap.size w'.heap.size cs (T4 x r)):=by
 have hb2:=hb
 unfold Q7 at hb2
 refine Ym Tryz.func49 Z Tryz.ntmps49 Z ?_
 obtain ⟨o1,o2,o3,o4,o5,o6,o7,o8,rfl,hd1,hd2,hd3,hd4,hd5,hd6,hd7,hd8⟩:=Worker.op hx
 refine Q8 [(0,.agg [o1,o2,o3,o4,o5,o6,o7,o8].toArray),(1,.agg (Enc.enc r).toArray)] ⟨Z,Z,trivial⟩ ?_
 have E : Ext w w:=Ext.refl w
 refine Qe (Qh [false,false,false] Z Z (Y1 Z Z (fun b1 w1 e1 s1 h1=>?_)))
 have g_b1 : w.heap.size ≤ b1:=by have:=E.size;omega
 have y_b1:=h1.lt
 replace E:=E.trans e1
 have z1:=e1.size
 refine Y1 Z Z (fun b2 w2 e2 s2 h2=>?_)
 have g_b2 : w.heap.size ≤ b2:=by have:=E.size;omega
 have y_b2:=h2.lt
 replace E:=E.trans e2;replace h1:=h1.ext e2
 have z2:=e2.size
 refine Yo X8 Z (fun b3 w3 e3 s3 h3=>?_)
 have g_b3 : w.heap.size ≤ b3:=by have:=E.size;omega
 have y_b3:=h3.lt
 replace E:=E.trans e3;replace h1:=h1.ext e3;replace h2:=h2.ext e3
 have z3:=e3.size
 refine Qc (Qe (Qh [true,false,false,false] Z Z (Qa (Qy X8 Z h1.at Z) Z (Qw Tryz.call67 Z (c_copyWorker [o1,o2,o3,o4,o5,o6,o7,o8] x _ (Worker.mkR x (RdD.any (hd1.ext E)) (RdD.any (hd2.ext E)) (RdD.any (hd3.ext E)) (RdD.any (hd4.ext E)) (RdD.any (hd5.ext E)) (RdD.any (hd6.ext E)) (RdD.any (hd7.ext E)) (RdD.any (hd8.ext E))) (by first | omega | (simp only [Qi];omega) | (rw [Qi];done) | (simp only [Qi];done))) Z (fun _ w4 e4 ho1=>?_)))))
 obtain ⟨_,rfl,ho1⟩:=ho1
 have g_ho1 : w.heap.size ≤ w3.heap.size:=E.size
 replace E:=E.trans e4;replace h1:=h1.ext e4;replace h2:=h2.ext e4;replace h3:=h3.ext e4
 have z4:=e4.size
 obtain ⟨o9,o10,o11,o12,o13,o14,o15,o16,rfl,sp1,hw1,hw2,hw3,hw4,hw5,hw6,hw7,hw8⟩:=Worker.opO ho1
 refine Yo X8 Z (fun b4 w5 e5 s4 h4=>?_)
 have g_b4 : w.heap.size ≤ b4:=by have:=E.size;omega
 have y_b4:=h4.lt
 replace E:=E.trans e5;replace h1:=h1.ext e5;replace h2:=h2.ext e5;replace h3:=h3.ext e5;replace hw1:=hw1.ext e5;replace hw2:=hw2.ext e5;replace hw3:=hw3.ext e5;replace hw4:=hw4.ext e5;replace hw5:=hw5.ext e5;replace hw6:=hw6.ext e5;replace hw7:=hw7.ext e5;replace hw8:=hw8.ext e5
 have z5:=e5.size
 refine Q4 (cs':=[o9,o10,o11,o12,o13,o14,o15,o16]) X8 Z Z Z (Qj hw1.one (Qj hw2.one (Qj hw3.one (Qj hw4.one (Qj hw5.one (Qj hw6.one (Qj hw7.one (Qj hw8.one Z)))))))) h4 (Nat.le_of_ble_eq_true Z) Z (fun w6 m1 h4'=>?_)
 replace h4:=h4'
 replace E:=E.step m1 (fun g hg=>by cases hg;omega);replace h1:=h1.mod m1 (fun g hg=>by cases hg;omega);replace h2:=h2.mod m1 (fun g hg=>by cases hg;omega);replace h3:=h3.mod m1 (fun g hg=>by cases hg;omega);replace hw1:=hw1.mod m1 (fun g hg=>by cases hg;omega);replace hw2:=hw2.mod m1 (fun g hg=>by cases hg;omega);replace hw3:=hw3.mod m1 (fun g hg=>by cases hg;omega);replace hw4:=hw4.mod m1 (fun g hg=>by cases hg;omega);replace hw5:=hw5.mod m1 (fun g hg=>by cases hg;omega);replace hw6:=hw6.mod m1 (fun g hg=>by cases hg;omega);replace hw7:=hw7.mod m1 (fun g hg=>by cases hg;omega);replace hw8:=hw8.mod m1 (fun g hg=>by cases hg;omega)
 have z6:=m1.size
 refine Qc (Qe (Qh [true,true,true,false,false,true,false] Z Z (Qa (Qb V8 Z) Z (Qa (Qk Xq Z (h4.one 0 Z)) Z (Qa (Qy Ul Z h2.at Z) Z (Y7 (vs:=[.agg (Enc.enc r).toArray]) (css:=[[.int .i64 r.op,.int .i64 r.stamp.epoch,.int .i64 r.stamp.turn,.int .i64 r.key,.int .i64 r.val]]) Kn Z Z ⟨⟨Z,Z⟩,trivial⟩ Z Z (fun b5 w7 e6 s5 h5=>?_)))))))
 replace h5 : Blk w7 b5 [.int .i64 r.op,.int .i64 r.stamp.epoch,.int .i64 r.stamp.turn,.int .i64 r.key,.int .i64 r.val]:=h5
 have g_b5 : w.heap.size ≤ b5:=by have:=E.size;omega
 have y_b5:=h5.lt
 replace E:=E.trans e6;replace h1:=h1.ext e6;replace h2:=h2.ext e6;replace h3:=h3.ext e6;replace hw1:=hw1.ext e6;replace hw2:=hw2.ext e6;replace hw3:=hw3.ext e6;replace hw4:=hw4.ext e6;replace hw5:=hw5.ext e6;replace hw6:=hw6.ext e6;replace hw7:=hw7.ext e6;replace hw8:=hw8.ext e6;replace h4:=h4.ext e6
 have z7:=e6.size
 refine Hx Kn Z Z hw1 (Src.ofBlk h5 Z) Z (by simp only [Yz];simp [Enc.sz];omega) (by decide) (by omega) (by omega) Z Z (fun v1 w8 m2 ho2 hb1=>?_)
 have hn1 : ∀ g,Value.ownBlock v1 = some g → g < w4.heap.size ∨ w7.heap.size ≤ g:=fun g hg=>(hb1 g hg).elim (fun h=>.inl (by have:=Own.blk hw1 g h;omega)) (fun h=>.inr h)
 have sq1:=sp1
 replace sp1:=SepL.set hb1 0 rfl sp1 ⟨(Own.lt hw1),(Own.lt hw2),(Own.lt hw3),(Own.lt hw4),(Own.lt hw5),(Own.lt hw6),(Own.lt hw7),(Own.lt hw8),trivial⟩
 replace sp1 : SepL [v1,o10,o11,o12,o13,o14,o15,o16]:=sp1
 replace E:=E.step m2 (fun g hg=>by have:=Own.blk hw1 g hg;omega);replace h1:=h1.mod m2 (fun g hg=>by have:=Own.blk hw1 g hg;omega);replace h2:=h2.mod m2 (fun g hg=>by have:=Own.blk hw1 g hg;omega);replace h3:=h3.mod m2 (fun g hg=>by have:=Own.blk hw1 g hg;omega);replace hw2:=Own.modS hw2 m2 sq1.1.1;replace hw3:=Own.modS hw3 m2 sq1.1.2.1;replace hw4:=Own.modS hw4 m2 sq1.1.2.2.1;replace hw5:=Own.modS hw5 m2 sq1.1.2.2.2.1;replace hw6:=Own.modS hw6 m2 sq1.1.2.2.2.2.1;replace hw7:=Own.modS hw7 m2 sq1.1.2.2.2.2.2.1;replace hw8:=Own.modS hw8 m2 sq1.1.2.2.2.2.2.2.1;replace h4:=h4.mod m2 (fun g hg=>by have:=Own.blk hw1 g hg;omega)
 have z8:=m2.size
 replace ho2 : Own w8 w3.heap.size w8.heap.size 5 v1 (List.flatMap (Enc.enc (α:=Record)) (x.queue ++ [r])):=by rw [List.flatMap_append];exact ho2
 refine Qa (Qb V8 Z) Z (Yj (cs':=[v1,o10,o11,o12,o13,o14,o15,o16]) Xq Z Z ho2.one h4 (Nat.le_of_ble_eq_true Z) Z (fun w9 m3 h4'=>?_))
 replace h4:=h4'
 replace E:=E.step m3 (fun g hg=>by cases hg;omega);replace h1:=h1.mod m3 (fun g hg=>by cases hg;omega);replace h2:=h2.mod m3 (fun g hg=>by cases hg;omega);replace h3:=h3.mod m3 (fun g hg=>by cases hg;omega);replace hw2:=hw2.mod m3 (fun g hg=>by cases hg;omega);replace hw3:=hw3.mod m3 (fun g hg=>by cases hg;omega);replace hw4:=hw4.mod m3 (fun g hg=>by cases hg;omega);replace hw5:=hw5.mod m3 (fun g hg=>by cases hg;omega);replace hw6:=hw6.mod m3 (fun g hg=>by cases hg;omega);replace hw7:=hw7.mod m3 (fun g hg=>by cases hg;omega);replace hw8:=hw8.mod m3 (fun g hg=>by cases hg;omega);replace ho2:=Own.modN ho2 m3 (fun g hg hv=>by have hN:=hn1 g hv;have hB:=Own.blk ho2 g hv;cases hg;omega)
 have z9:=m3.size
 refine Qc (Qe (Qh [true,false] Z Z (Qa (Qy X8 Z h4.at Z) Z (Q4 (cs':=[v1,o10,o11,o12,o13,o14,o15,o16]) X8 Z Z Z (Qj ho2.one (Qj hw2.one (Qj hw3.one (Qj hw4.one (Qj hw5.one (Qj hw6.one (Qj hw7.one (Qj hw8.one Z)))))))) h3 (Nat.le_of_ble_eq_true Z) Z (fun w10 m4 h3'=>?_)))))
 replace h3:=h3'
 replace E:=E.step m4 (fun g hg=>by cases hg;omega);replace h1:=h1.mod m4 (fun g hg=>by cases hg;omega);replace h2:=h2.mod m4 (fun g hg=>by cases hg;omega);replace hw2:=hw2.mod m4 (fun g hg=>by cases hg;omega);replace hw3:=hw3.mod m4 (fun g hg=>by cases hg;omega);replace hw4:=hw4.mod m4 (fun g hg=>by cases hg;omega);replace hw5:=hw5.mod m4 (fun g hg=>by cases hg;omega);replace hw6:=hw6.mod m4 (fun g hg=>by cases hg;omega);replace hw7:=hw7.mod m4 (fun g hg=>by cases hg;omega);replace hw8:=hw8.mod m4 (fun g hg=>by cases hg;omega);replace h4:=h4.mod m4 (fun g hg=>by cases hg;omega);replace ho2:=Own.modN ho2 m4 (fun g hg hv=>by have hN:=hn1 g hv;have hB:=Own.blk ho2 g hv;cases hg;omega)
 have z10:=m4.size
 refine Qc (Qv (X3 Z Z (Yd X8 h3.at Z) E ?_))
 exact ⟨_,Z,Worker.mkO (⟨x.queue ++ [r],x.staged,x.inputs,x.cells,x.sums,x.black,x.caps,x.dones⟩ : Worker) sp1 (Own.widen ho2 (by omega) (by omega)) (Own.widen hw2 (by omega) (by omega)) (Own.widen hw3 (by omega) (by omega)) (Own.widen hw4 (by omega) (by omega)) (Own.widen hw5 (by omega) (by omega)) (Own.widen hw6 (by omega) (by omega)) (Own.widen hw7 (by omega) (by omega)) (Own.widen hw8 (by omega) (by omega))⟩

set_option maxRecDepth 20000 in
theorem c_SentAway (cx : List Value) (x : Worker) (e : Int) (w : World) (hx : Dat.R w 0 w.heap.size cx x) (hb : Q7 x ≤ 1048576) : Ct Tryz.prog 52 [.agg cx.toArray,.int .i64 e] w (fun v w'=>∃ cs,v = .agg cs.toArray ∧ Own1.O w' w.heap.size w'.heap.size cs (Tr x e)):=by
 refine Ym Tryz.func52 Z Tryz.ntmps52 Z ?_
 obtain ⟨o1,o2,o3,o4,o5,o6,o7,o8,rfl,hd1,hd2,hd3,hd4,hd5,hd6,hd7,hd8⟩:=Worker.op hx
 refine Q8 [(0,.agg [o1,o2,o3,o4,o5,o6,o7,o8].toArray),(1,.int .i64 e)] ⟨Z,Z,trivial⟩ ?_
 have E : Ext w w:=Ext.refl w
 refine Qe (Qh [false,false] Z Z (Y1 Z Z (fun b1 w1 e1 s1 h1=>?_)))
 have g_b1 : w.heap.size ≤ b1:=by have:=E.size;omega
 have y_b1:=h1.lt
 replace E:=E.trans e1
 have z1:=e1.size
 refine Yo X8 Z (fun b2 w2 e2 s2 h2=>?_)
 have g_b2 : w.heap.size ≤ b2:=by have:=E.size;omega
 have y_b2:=h2.lt
 replace E:=E.trans e2;replace h1:=h1.ext e2
 have z2:=e2.size
 refine Qc (Qe (Qh [true,false,false,false] Z Z (Qa (Qy X8 Z h1.at Z) Z (Qw Tryz.call67 Z (c_copyWorker [o1,o2,o3,o4,o5,o6,o7,o8] x _ (Worker.mkR x (RdD.any (hd1.ext E)) (RdD.any (hd2.ext E)) (RdD.any (hd3.ext E)) (RdD.any (hd4.ext E)) (RdD.any (hd5.ext E)) (RdD.any (hd6.ext E)) (RdD.any (hd7.ext E)) (RdD.any (hd8.ext E))) (by first | omega | (simp only [Qi];omega) | (rw [Qi];done) | (simp only [Qi];done))) Z (fun _ w3 e3 ho1=>?_)))))
 obtain ⟨_,rfl,ho1⟩:=ho1
 have g_ho1 : w.heap.size ≤ w2.heap.size:=E.size
 replace E:=E.trans e3;replace h1:=h1.ext e3;replace h2:=h2.ext e3
 have z3:=e3.size
 obtain ⟨o9,o10,o11,o12,o13,o14,o15,o16,rfl,sp1,hw1,hw2,hw3,hw4,hw5,hw6,hw7,hw8⟩:=Worker.opO ho1
 refine Yo X8 Z (fun b3 w4 e4 s3 h3=>?_)
 have g_b3 : w.heap.size ≤ b3:=by have:=E.size;omega
 have y_b3:=h3.lt
 replace E:=E.trans e4;replace h1:=h1.ext e4;replace h2:=h2.ext e4;replace hw1:=hw1.ext e4;replace hw2:=hw2.ext e4;replace hw3:=hw3.ext e4;replace hw4:=hw4.ext e4;replace hw5:=hw5.ext e4;replace hw6:=hw6.ext e4;replace hw7:=hw7.ext e4;replace hw8:=hw8.ext e4
 have z4:=e4.size
 refine Q4 (cs':=[o9,o10,o11,o12,o13,o14,o15,o16]) X8 Z Z Z (Qj hw1.one (Qj hw2.one (Qj hw3.one (Qj hw4.one (Qj hw5.one (Qj hw6.one (Qj hw7.one (Qj hw8.one Z)))))))) h3 (Nat.le_of_ble_eq_true Z) Z (fun w5 m1 h3'=>?_)
 replace h3:=h3'
 replace E:=E.step m1 (fun g hg=>by cases hg;omega);replace h1:=h1.mod m1 (fun g hg=>by cases hg;omega);replace h2:=h2.mod m1 (fun g hg=>by cases hg;omega);replace hw1:=hw1.mod m1 (fun g hg=>by cases hg;omega);replace hw2:=hw2.mod m1 (fun g hg=>by cases hg;omega);replace hw3:=hw3.mod m1 (fun g hg=>by cases hg;omega);replace hw4:=hw4.mod m1 (fun g hg=>by cases hg;omega);replace hw5:=hw5.mod m1 (fun g hg=>by cases hg;omega);replace hw6:=hw6.mod m1 (fun g hg=>by cases hg;omega);replace hw7:=hw7.mod m1 (fun g hg=>by cases hg;omega);replace hw8:=hw8.mod m1 (fun g hg=>by cases hg;omega)
 have z5:=m1.size
 refine Qc (Qe (Qe (Qh [true,true,true,true,true,false] Z Z (Qa (Qd Z) Z (Qa (Qb Vc Z) Z (Qa (Qk K0 Z (h1.one 4 Z)) Z (Qa (Yc Tryz.underlying76 Z (hd5.ext E).len) Z (Qa (K6 Z Z Z) Z (Qw Tryz.call71 Z (c_within e 0 (IntKind.i64.wrap (((x.sums.length : Nat) : Int) - 1)) _ ) Z (fun _ w6 e5 hv=>?_))))))))))
 subst hv
 replace E:=E.trans e5;replace h1:=h1.ext e5;replace h2:=h2.ext e5;replace hw1:=hw1.ext e5;replace hw2:=hw2.ext e5;replace hw3:=hw3.ext e5;replace hw4:=hw4.ext e5;replace hw5:=hw5.ext e5;replace hw6:=hw6.ext e5;replace hw7:=hw7.ext e5;replace hw8:=hw8.ext e5;replace h3:=h3.ext e5
 have z6:=e5.size
 refine Qc (Qt Z (fun hc1=>?_) (fun hc1=>?_))
 ·have hse:=sent_of (by simpa using hd5.1.1) hc1
  refine Qh [true,true,true,true,true,true,true,false] Z Z (Qa (Qb Vc Z) Z (Qa (Qk K0 Z (h3.one 4 Z)) Z (Qa (Qd Z) Z ?_)))
  have hi1 : (Int.toNat e) < x.sums.length:=(by first | assumption | omega | (simp only [List.length_set];first | assumption | omega) | (simp only [List.getElem_set_self,List.length_set];first | assumption | omega) | (simp only [Yn,Yh,List.length_set];first | assumption | omega))
  refine Qa (Xk (i:=(Int.toNat e)) Ux Z Z (Own.rd (by decide) hw5) (by omega) hi1) Z (Qa (Qk Yt Z (((Own.rd (by decide) hw5).get hi1).one 0 Z)) Z (Qa (Ye Z Z Z) Z ?_))
  have hi2 : (Int.toNat e) < x.sums.length:=(by first | assumption | omega | (simp only [List.length_set];first | assumption | omega) | (simp only [List.getElem_set_self,List.length_set];first | assumption | omega) | (simp only [Yn,Yh,List.length_set];first | assumption | omega))
  refine Qa (Xk (i:=(Int.toNat e)) Ux Z Z (Own.rd (by decide) hw5) (by omega) hi2) Z (B8 (α:=Int) (i:=(Int.toNat e)) (f:=0) (IntKind.i64.wrap ((x.sums[(Int.toNat e)]'hi1) + 1)) Yt Z Z Z Z hw5 hi2 (by decide) Z (fun w7 m2 hw5'=>?_))
  have hq:=Own.blk hw5
  replace hw5:=hw5'
  replace E:=E.step m2 (fun g hg=>by have:=hq g hg;omega);replace h1:=h1.mod m2 (fun g hg=>by have:=hq g hg;omega);replace h2:=h2.mod m2 (fun g hg=>by have:=hq g hg;omega);replace hw1:=Own.modS hw1 m2 (sp1.1.2.2.2.1).symm;replace hw2:=Own.modS hw2 m2 (sp1.2.1.2.2.1).symm;replace hw3:=Own.modS hw3 m2 (sp1.2.2.1.2.1).symm;replace hw4:=Own.modS hw4 m2 (sp1.2.2.2.1.1).symm;replace hw6:=Own.modS hw6 m2 sp1.2.2.2.2.1.1;replace hw7:=Own.modS hw7 m2 sp1.2.2.2.2.1.2.1;replace hw8:=Own.modS hw8 m2 sp1.2.2.2.2.1.2.2.1;replace h3:=h3.mod m2 (fun g hg=>by have:=hq g hg;omega)
  have z7:=m2.size
  clear hq
  refine Qc (Qe (Qh [true,false] Z Z (Qa (Qy X8 Z h3.at Z) Z (Q4 (cs':=[o9,o10,o11,o12,o13,o14,o15,o16]) X8 Z Z Z (Qj hw1.one (Qj hw2.one (Qj hw3.one (Qj hw4.one (Qj hw5.one (Qj hw6.one (Qj hw7.one (Qj hw8.one Z)))))))) h2 (Nat.le_of_ble_eq_true Z) Z (fun w8 m3 h2'=>?_)))))
  replace h2:=h2'
  replace E:=E.step m3 (fun g hg=>by cases hg;omega);replace h1:=h1.mod m3 (fun g hg=>by cases hg;omega);replace hw1:=hw1.mod m3 (fun g hg=>by cases hg;omega);replace hw2:=hw2.mod m3 (fun g hg=>by cases hg;omega);replace hw3:=hw3.mod m3 (fun g hg=>by cases hg;omega);replace hw4:=hw4.mod m3 (fun g hg=>by cases hg;omega);replace hw6:=hw6.mod m3 (fun g hg=>by cases hg;omega);replace hw7:=hw7.mod m3 (fun g hg=>by cases hg;omega);replace hw8:=hw8.mod m3 (fun g hg=>by cases hg;omega);replace h3:=h3.mod m3 (fun g hg=>by cases hg;omega);replace hw5:=hw5.mod m3 (fun g hg=>by cases hg;omega)
  have z8:=m3.size
  refine Qc (Qv (X3 Z Z (Yd X8 h2.at Z) E ?_))
  rw [sentW_yes hse]
  exact ⟨_,Z,Worker.mkO (⟨x.queue,x.staged,x.inputs,x.cells,List.set x.sums (Int.toNat e) (IntKind.i64.wrap ((x.sums[(Int.toNat e)]'hi1) + 1)),x.black,x.caps,x.dones⟩ : Worker) sp1 (Own.widen hw1 (by omega) (by omega)) (Own.widen hw2 (by omega) (by omega)) (Own.widen hw3 (by omega) (by omega)) (Own.widen hw4 (by omega) (by omega)) (Own.widen hw5 (by omega) (by omega)) (Own.widen hw6 (by omega) (by omega)) (Own.widen hw7 (by omega) (by omega)) (Own.widen hw8 (by omega) (by omega))⟩
 ·refine Qo (Qe (Qh [true,false] Z Z (Qa (Qy X8 Z h3.at Z) Z (Q4 (cs':=[o9,o10,o11,o12,o13,o14,o15,o16]) X8 Z Z Z (Qj hw1.one (Qj hw2.one (Qj hw3.one (Qj hw4.one (Qj hw5.one (Qj hw6.one (Qj hw7.one (Qj hw8.one Z)))))))) h2 (Nat.le_of_ble_eq_true Z) Z (fun w9 m4 h2'=>?_)))))
  replace h2:=h2'
  replace E:=E.step m4 (fun g hg=>by cases hg;omega);replace h1:=h1.mod m4 (fun g hg=>by cases hg;omega);replace hw1:=hw1.mod m4 (fun g hg=>by cases hg;omega);replace hw2:=hw2.mod m4 (fun g hg=>by cases hg;omega);replace hw3:=hw3.mod m4 (fun g hg=>by cases hg;omega);replace hw4:=hw4.mod m4 (fun g hg=>by cases hg;omega);replace hw5:=hw5.mod m4 (fun g hg=>by cases hg;omega);replace hw6:=hw6.mod m4 (fun g hg=>by cases hg;omega);replace hw7:=hw7.mod m4 (fun g hg=>by cases hg;omega);replace hw8:=hw8.mod m4 (fun g hg=>by cases hg;omega);replace h3:=h3.mod m4 (fun g hg=>by cases hg;omega)
  have z9:=m4.size
  refine Qc (Qv (X3 Z Z (Yd X8 h2.at Z) E ?_))
  rw [sentW_no (by simpa using hd5.1.1) hc1]
  exact ⟨_,Z,Worker.mkO x sp1 (Own.widen hw1 (by omega) (by omega)) (Own.widen hw2 (by omega) (by omega)) (Own.widen hw3 (by omega) (by omega)) (Own.widen hw4 (by omega) (by omega)) (Own.widen hw5 (by omega) (by omega)) (Own.widen hw6 (by omega) (by omega)) (Own.widen hw7 (by omega) (by omega)) (Own.widen hw8 (by omega) (by omega))⟩

set_option maxRecDepth 20000 in
theorem c_toToken (x : Token) (w : World)  : Ct Tryz.prog 64 [.agg (Enc.enc x).toArray] w (fun v _=>v = .agg (Enc.enc x).toArray):=by
 refine Ym Tryz.func64 Z Tryz.ntmps64 Z ?_
 refine Q8 [(0,.agg (Enc.enc x).toArray)] ⟨Z,trivial⟩ ?_
 have E : Ext w w:=Ext.refl w
 refine Qe (Qh [false,false] Z Z (Y1 Z Z (fun b1 w1 e1 s1 h1=>?_)))
 have g_b1 : w.heap.size ≤ b1:=by have:=E.size;omega
 have y_b1:=h1.lt
 replace E:=E.trans e1
 have z1:=e1.size
 refine Yo Tz Z (fun b2 w2 e2 s2 h2=>?_)
 have g_b2 : w.heap.size ≤ b2:=by have:=E.size;omega
 have y_b2:=h2.lt
 replace E:=E.trans e2;replace h1:=h1.ext e2
 have z2:=e2.size
 refine Qc (Qe (Qh [false] Z Z (Yo Tz Z (fun b3 w3 e3 s3 h3=>?_))))
 have g_b3 : w.heap.size ≤ b3:=by have:=E.size;omega
 have y_b3:=h3.lt
 replace E:=E.trans e3;replace h1:=h1.ext e3;replace h2:=h2.ext e3
 have z3:=e3.size
 refine Qc (Qe (Qh [true,true,true,false] Z Z (Qa (Qb fl119_0 Z) Z (Qa (Qk Hs Z (h1.one 0 Z)) Z (Qa (Qb Tl Z) Z (Yj (cs':=[.bool x.going,.int .i64 0,.int .i64 0,.bool false,.bool false]) Hs Z Z Z h3 (Nat.le_of_ble_eq_true Z) Z (fun w4 m1 h3'=>?_)))))))
 replace h3:=h3'
 replace E:=E.step m1 (fun g hg=>by cases hg;omega);replace h1:=h1.mod m1 (fun g hg=>by cases hg;omega);replace h2:=h2.mod m1 (fun g hg=>by cases hg;omega)
 have z4:=m1.size
 refine Qc (Qe (Qh [true,true,true,false] Z Z (Qa (Qb fl119_1 Z) Z (Qa (Qk Yt Z (h1.one 1 Z)) Z (Qa (Qb Gx Z) Z (Yj (cs':=[.bool x.going,.int .i64 x.place,.int .i64 0,.bool false,.bool false]) Yt Z Z Z h3 (Nat.le_of_ble_eq_true Z) Z (fun w5 m2 h3'=>?_)))))))
 replace h3:=h3'
 replace E:=E.step m2 (fun g hg=>by cases hg;omega);replace h1:=h1.mod m2 (fun g hg=>by cases hg;omega);replace h2:=h2.mod m2 (fun g hg=>by cases hg;omega)
 have z5:=m2.size
 refine Qc (Qe (Qh [true,true,true,false] Z Z (Qa (Qb fl119_2 Z) Z (Qa (Qk Yt Z (h1.one 2 Z)) Z (Qa (Qb Gw Z) Z (Yj (cs':=[.bool x.going,.int .i64 x.place,.int .i64 x.sum,.bool false,.bool false]) Yt Z Z Z h3 (Nat.le_of_ble_eq_true Z) Z (fun w6 m3 h3'=>?_)))))))
 replace h3:=h3'
 replace E:=E.step m3 (fun g hg=>by cases hg;omega);replace h1:=h1.mod m3 (fun g hg=>by cases hg;omega);replace h2:=h2.mod m3 (fun g hg=>by cases hg;omega)
 have z6:=m3.size
 refine Qc (Qe (Qh [true,true,true,false] Z Z (Qa (Qb fl119_3 Z) Z (Qa (Qk Hs Z (h1.one 3 Z)) Z (Qa (Qb Ak Z) Z (Yj (cs':=[.bool x.going,.int .i64 x.place,.int .i64 x.sum,.bool x.black,.bool false]) Hs Z Z Z h3 (Nat.le_of_ble_eq_true Z) Z (fun w7 m4 h3'=>?_)))))))
 replace h3:=h3'
 replace E:=E.step m4 (fun g hg=>by cases hg;omega);replace h1:=h1.mod m4 (fun g hg=>by cases hg;omega);replace h2:=h2.mod m4 (fun g hg=>by cases hg;omega)
 have z7:=m4.size
 refine Qc (Qe (Qh [true,true,true,false] Z Z (Qa (Qb fl119_4 Z) Z (Qa (Qk Hs Z (h1.one 4 Z)) Z (Qa (Qb Aj Z) Z (Yj (cs':=[.bool x.going,.int .i64 x.place,.int .i64 x.sum,.bool x.black,.bool x.capped]) Hs Z Z Z h3 (Nat.le_of_ble_eq_true Z) Z (fun w8 m5 h3'=>?_)))))))
 replace h3:=h3'
 replace E:=E.step m5 (fun g hg=>by cases hg;omega);replace h1:=h1.mod m5 (fun g hg=>by cases hg;omega);replace h2:=h2.mod m5 (fun g hg=>by cases hg;omega)
 have z8:=m5.size
 refine Qc (Qe (Qh [true,false] Z Z (Qa (Qy Tz Z h3.at Z) Z (Q4 (cs':=[.bool x.going,.int .i64 x.place,.int .i64 x.sum,.bool x.black,.bool x.capped]) Tz Z Z Z Z h2 (Nat.le_of_ble_eq_true Z) Z (fun w9 m6 h2'=>?_)))))
 replace h2:=h2'
 replace E:=E.step m6 (fun g hg=>by cases hg;omega);replace h1:=h1.mod m6 (fun g hg=>by cases hg;omega);replace h3:=h3.mod m6 (fun g hg=>by cases hg;omega)
 have z9:=m6.size
 refine Qc (Qv (X3 Z Z (Yd Tz h2.at Z) E ?_))
 rfl

set_option maxRecDepth 20000 in
theorem c_eqToken (x : Token) (y : Token) (w : World)  : Ct Tryz.prog 75 [.agg (Enc.enc x).toArray,.agg (Enc.enc y).toArray] w (fun v _=>v = .bool (decide (x = y))):=by
 refine Ym Tryz.func75 Z Tryz.ntmps75 Z ?_
 refine Q8 [(0,.agg (Enc.enc x).toArray),(1,.agg (Enc.enc y).toArray)] ⟨Z,Z,trivial⟩ ?_
 have E : Ext w w:=Ext.refl w
 refine Qe (Qh [false,false,true] Z Z (Y1 Z Z (fun b1 w1 e1 s1 h1=>?_)))
 have g_b1 : w.heap.size ≤ b1:=by have:=E.size;omega
 have y_b1:=h1.lt
 replace E:=E.trans e1
 have z1:=e1.size
 refine Y1 Z Z (fun b2 w2 e2 s2 h2=>?_)
 have g_b2 : w.heap.size ≤ b2:=by have:=E.size;omega
 have y_b2:=h2.lt
 replace E:=E.trans e2;replace h1:=h1.ext e2
 have z2:=e2.size
 refine Qa (Qf Z) Z (Qc (Qe (Qe (Qh [true,true,true,true,true] Z Z (Qa (Qb Tl Z) Z (Qa (Qk Hs Z (h1.one 0 Z)) Z (Qa (Qb Tl Z) Z (Qa (Qk Hs Z (h2.one 0 Z)) Z (Qa (U8 (Tryz.underlying4) Z Z) Z (Qc (Qt Z (fun hc1=>?_) (fun hc1=>?_))))))))))))
 ·refine Qe (Qh [true] Z Z (Qa (Qf Z) Z (Qc (Qv (Qm Z Z E ?_)))))
  cases x;cases y;simp_all
 ·refine Qo (Qe (Qe (Qh [true,true,true,true,true] Z Z (Qa (Qb Gx Z) Z (Qa (Qk Yt Z (h1.one 1 Z)) Z (Qa (Qb Gx Z) Z (Qa (Qk Yt Z (h2.one 1 Z)) Z (Qa (Yu Z Z) Z (Qc (Qt Z (fun hc2=>?_) (fun hc2=>?_)))))))))))
  ·refine Qe (Qh [true] Z Z (Qa (Qf Z) Z (Qc (Qv (Qm Z Z E ?_)))))
   cases x;cases y;simp_all
  ·refine Qo (Qe (Qe (Qh [true,true,true,true,true] Z Z (Qa (Qb Gw Z) Z (Qa (Qk Yt Z (h1.one 2 Z)) Z (Qa (Qb Gw Z) Z (Qa (Qk Yt Z (h2.one 2 Z)) Z (Qa (Yu Z Z) Z (Qc (Qt Z (fun hc3=>?_) (fun hc3=>?_)))))))))))
   ·refine Qe (Qh [true] Z Z (Qa (Qf Z) Z (Qc (Qv (Qm Z Z E ?_)))))
    cases x;cases y;simp_all
   ·refine Qo (Qe (Qe (Qh [true,true,true,true,true] Z Z (Qa (Qb Ak Z) Z (Qa (Qk Hs Z (h1.one 3 Z)) Z (Qa (Qb Ak Z) Z (Qa (Qk Hs Z (h2.one 3 Z)) Z (Qa (U8 (Tryz.underlying4) Z Z) Z (Qc (Qt Z (fun hc4=>?_) (fun hc4=>?_)))))))))))
    ·refine Qe (Qh [true] Z Z (Qa (Qf Z) Z (Qc (Qv (Qm Z Z E ?_)))))
     cases x;cases y;simp_all
    ·refine Qo (Qe (Qe (Qh [true,true,true,true,true] Z Z (Qa (Qb Aj Z) Z (Qa (Qk Hs Z (h1.one 4 Z)) Z (Qa (Qb Aj Z) Z (Qa (Qk Hs Z (h2.one 4 Z)) Z (Qa (U8 (Tryz.underlying4) Z Z) Z (Qc (Qt Z (fun hc5=>?_) (fun hc5=>?_)))))))))))
     ·refine Qe (Qh [true] Z Z (Qa (Qf Z) Z (Qc (Qv (Qm Z Z E ?_)))))
      cases x;cases y;simp_all
     ·refine Qo (Qe (Qh [true] Z Z (Qa (Qf Z) Z (Qc (Qv (Qm Z Z E ?_))))))
      cases x;cases y;simp_all

set_option maxRecDepth 20000 in
theorem c_szTokenS (vxs : Value) (xs : List Token) (n : Int) (w : World) (hxs : RdS w vxs xs) (h0 : 0 ≤ n ∧ n ≤ 1048576) : Ct Tryz.prog 17 [vxs,.int .i64 n] w (fun v _=>v = .int .i64 (Uk xs.length n)):=by
 refine Ym Tryz.func17 Z Tryz.ntmps17 Z ?_
 refine Q8 [(0,vxs),(1,.int .i64 n)] ⟨Z,Z,trivial⟩ ?_
 have E : Ext w w:=Ext.refl w
 refine Qe (Qh [true] Z Z (Qa (Qf Z) Z (Qc (Qe (Qh [true,true,true,true,true] Z Z (Qa (Qd Z) Z (Qa (Qd Z) Z (Qa (Yc Tryz.underlying27 Z (hxs.ext E).len) Z (Qa (K6 Z Z Z) Z (Qa (Qf Z) Z (Qc (Qe (Qe (Qh [true,true] Z Z (Qa (Qd Z) Z (Qa (Yi Z Z) Z (Qc (Qt Z (fun hc1=>?_) (fun hc1=>?_)))))))))))))))))))
 ·refine Qe (Qh [true] Z Z (Qa (Qf Z) Z (Qc (Qv (Qm Z Z E ?_)))))
  exact Bj h0.2 h0.1 hxs.1 hc1
 ·refine Qo (Qe (Qh [true,true] Z Z (Qa (Qd Z) Z (Qa (Qf Z) Z (Qc (Qv (Qm Z Z E ?_)))))))
  exact Cv h0.2 h0.1 hxs.1 hc1

set_option maxRecDepth 20000 in
theorem c_toTokenS (vxs : Value) (xs : List Token) (w : World) (hxs : RdS w vxs xs) (hb : xs.length ≤ 1048576) : Ct Tryz.prog 24 [vxs] w (fun v w'=>Own w' w.heap.size w'.heap.size 5 v (List.flatMap (Enc.enc (α:=Token)) xs)):=by
 refine Ym Tryz.func24 Z Tryz.ntmps24 Z ?_
 refine Q8 [(0,vxs)] ⟨Z,trivial⟩ ?_
 have E : Ext w w:=Ext.refl w
 refine Qe (Qh [true] Z Z (Qa (Qf Z) Z (Qc (Qe (Qh [true,true,false,true] Z Z (Qa (Qd Z) Z (Qa (Yc Tryz.underlying27 Z (hxs.ext E).len) Z (Hp (m:=xs.length) Gz Z Z (by omega) (by decide) Z (fun b1 w1 e1 s1 h1=>?_)))))))))
 have g_b1 : w.heap.size ≤ b1:=by have:=E.size;omega
 have y_b1:=h1.lt
 replace E:=E.trans e1
 have z1:=e1.size
 refine Qa (Qf Z) Z (Qc (Qe (Qe (Qh [true] Z Z (Qa (Qf Z) Z (Qc (Q0 (Yp (fun (k : Nat)=>[(0,vxs),(2,.slice none 0 0),(3,.slice (some ⟨b1,0,none⟩) xs.length xs.length),(4,.int .i64 ((k : Nat) : Int))]) (fun (k : Nat) w'=>Ext w w' ∧ w1.heap.size ≤ w'.heap.size ∧ k ≤ xs.length ∧ Blk w' b1 (mk xs [.bool false,.int .i64 0,.int .i64 0,.bool false,.bool false] k xs.length)) (fun (k : Nat)=>xs.length - k) 0 ⟨Z,Z,Z,Z,trivial⟩ ⟨E,Nat.le_refl _,Nat.zero_le _,(H4 xs [.bool false,.int .i64 0,.int .i64 0,.bool false,.bool false] xs.length) ▸ h1⟩ ?_))))))))
 clear E h1
 rintro k w2 ⟨E,z2,hk,h1⟩
 refine Qe (Qe (Qh [true,true,true,true] Z Z (Qa (Qd Z) Z (Qa (Qd Z) Z (Qa (Yc Tryz.underlying27 Z (hxs.ext E).len) Z (Qa (Yi Z Z) Z (Qc (Qt Z (fun hc1=>?_) (fun hc1=>?_)))))))))
 ·have hc1n : k < xs.length:=by first | (have h:=of_decide_eq_true hc1;omega) | (have h:=hc1;simp at h;omega)
  refine Qo (Qe (Q0 (Qh [true,true,true,true,true,true,false,true,false] Z Z (Qa (Qd Z) Z (Qa (Qd Z) Z (Qa (Qd Z) Z (Qa (Qd Z) Z ?_)))))))
  have hi1 : k < xs.length:=(by first | assumption | omega | (simp only [List.length_set];first | assumption | omega) | (simp only [List.getElem_set_self,List.length_set];first | assumption | omega) | (simp only [Yn,Yh,List.length_set];first | assumption | omega))
  refine Qa (Qz (i:=k) sl27 Z Z (hxs.ext E) hi1) Z (Qa (Qy st119 Z ((hxs.ext E).get hi1) Z) Z (Qw Tryz.call64 Z (c_toToken (xs[k]'hi1) _ ) Z (fun _ w3 e2 hv=>?_)))
  subst hv
  replace E:=E.trans e2;replace h1:=h1.ext e2
  have z3:=e2.size
  refine Qa (Vj Gz Z Z (by first | assumption | omega | (simp only [List.length_set];first | assumption | omega) | (simp only [List.getElem_set_self,List.length_set];first | assumption | omega) | (simp only [Yn,Yh,List.length_set];first | assumption | omega))) Z (Q4 (cs':=mk xs [.bool false,.int .i64 0,.int .i64 0,.bool false,.bool false] (k + 1) xs.length) Tz Z Z Z Z h1 (H6 xs [.bool false,.int .i64 0,.int .i64 0,.bool false,.bool false] Z hc1n hc1n (by rfl)) (H5 xs [.bool false,.int .i64 0,.int .i64 0,.bool false,.bool false] Z hc1n hc1n) (fun w4 m1 h1'=>?_))
  replace h1:=h1'
  replace E:=E.step m1 (fun g hg=>by cases hg;omega)
  have z4:=m1.size
  refine Qc (Q6 (Y0 (Qh [true,true,true] Z Z (Qa (Qd Z) Z (Qa (Ye Z Z (Y3 hc1n hxs.1)) Z (Qa (Qf Z) Z (Qc (Q6 (Yk (k + 1) (by omega) ⟨Z,Z,Z,Z,trivial⟩ ⟨E,(by omega),(by omega),h1⟩)))))))))
 ·have hc1n : ¬ k < xs.length:=by first | (have h:=of_decide_eq_false hc1;omega) | (have h:=hc1;simp at h;omega)
  refine Yq (Q5 (Q3 ?_))
  refine Qe (Qh [true,true] Z Z (Qa (Qd Z) Z (Qa (Qf Z) Z (Qc (Qv (Qm Z Z E ?_))))))
  obtain rfl : k = xs.length:=by omega
  rw [C1] at h1
  exact Own.ofBlk h1 (by omega) (by have:=h1.lt;omega) (Yz xs) hxs.1

set_option maxRecDepth 20000 in
theorem c_eqTokenS (vxs : Value) (xs : List Token) (vys : Value) (ys : List Token) (w : World) (hxs : RdS w vxs xs) (hys : RdS w vys ys) : Ct Tryz.prog 33 [vxs,vys] w (fun v _=>v = .bool (decide (xs = ys))):=by
 refine Ym Tryz.func33 Z Tryz.ntmps33 Z ?_
 refine Q8 [(0,vxs),(1,vys)] ⟨Z,Z,trivial⟩ ?_
 have E : Ext w w:=Ext.refl w
 refine Qe (Qh [true] Z Z (Qa (Qf Z) Z (Qc (Qe (Qe (Qh [true,true,true,true,true] Z Z (Qa (Qd Z) Z (Qa (Yc Tryz.underlying37 Z (hxs.ext E).len) Z (Qa (Qd Z) Z (Qa (Yc Tryz.underlying37 Z (hys.ext E).len) Z (Qa (Yu Z Z) Z (Qc (Qt Z (fun hc1=>?_) (fun hc1=>?_))))))))))))))
 ·have hc1n : ¬ xs.length = ys.length:=by first | (have h:=of_decide_eq_true hc1;omega) | (have h:=hc1;simp at h;omega)
  refine Qe (Qh [true] Z Z (Qa (Qf Z) Z (Qc (Qv (Qm Z Z E ?_)))))
  simp [Hl hc1n]
 ·have hc1n : xs.length = ys.length:=by first | (have h:=of_decide_eq_false hc1;omega) | (have h:=hc1;simp at h;omega)
  refine Qo (Qe (Qe (Qh [true] Z Z (Qa (Qf Z) Z (Qc (Q0 (Yp (fun (k : Nat)=>[(0,vxs),(1,vys),(4,.bool false),(5,.int .i64 ((k : Nat) : Int))]) (fun (k : Nat) w'=>Ext w w' ∧ w.heap.size ≤ w'.heap.size ∧ k ≤ xs.length ∧ xs.take k = ys.take k) (fun (k : Nat)=>xs.length - k) 0 ⟨Z,Z,Z,Z,trivial⟩ ⟨E,Nat.le_refl _,Nat.zero_le _,Z⟩ ?_)))))))
  clear E
  rintro k w1 ⟨E,z1,hk,hp⟩
  refine Qe (Qe (Qh [true,true,true,true] Z Z (Qa (Qd Z) Z (Qa (Qd Z) Z (Qa (Yc Tryz.underlying37 Z (hxs.ext E).len) Z (Qa (Yi Z Z) Z (Qc (Qt Z (fun hc2=>?_) (fun hc2=>?_)))))))))
  ·have hc2n : k < xs.length:=by first | (have h:=of_decide_eq_true hc2;omega) | (have h:=hc2;simp at h;omega)
   refine Qo (Qe (Q0 (Qe (Xx Xs [(0,true),(1,true),(2,true),(3,true),(4,true),(5,true),(6,true),(7,true),(8,false),(9,true)] (by decide +kernel) Z (fun w2 e1=>?_)))))
   replace E:=E.trans e1
   have z2:=e1.size
   refine Qa (Qd Z) Z (Qa (Qd Z) Z ?_)
   have hi1 : k < xs.length:=(by first | assumption | omega | (simp only [List.length_set];first | assumption | omega) | (simp only [List.getElem_set_self,List.length_set];first | assumption | omega) | (simp only [Yn,Yh,List.length_set];first | assumption | omega))
   refine Qa (Qz (i:=k) Gz Z Z (hxs.ext E) hi1) Z (Qa (Qy Tz Z ((hxs.ext E).get hi1) Z) Z (Qa (Qd Z) Z (Qa (Qd Z) Z ?_)))
   have hi2 : k < ys.length:=(by first | assumption | omega | (simp only [List.length_set];first | assumption | omega) | (simp only [List.getElem_set_self,List.length_set];first | assumption | omega) | (simp only [Yn,Yh,List.length_set];first | assumption | omega))
   refine Qa (Qz (i:=k) Gz Z Z (hys.ext E) hi2) Z (Qa (Qy Tz Z ((hys.ext E).get hi2) Z) Z (Qw Tryz.call75 Z (c_eqToken (xs[k]'hi1) (ys[k]'hi2) _ ) Z (fun _ w3 e2 hv=>?_)))
   subst hv
   replace E:=E.trans e2
   have z3:=e2.size
   refine Qa (Yy Z) Z (Qc (Qt Z (fun hc3=>?_) (fun hc3=>?_)))
   ·refine Qe (Qh [true] Z Z (Qa (Qf Z) Z (Qc (Qv (Q2 (Yv (Q2 (Qm Z Z E ?_))))))))
    exact Hm (by omega) (by omega) (by simpa using hc3)
   ·refine Qo (Q6 (Y0 (Qh [true,true,true] Z Z (Qa (Qd Z) Z (Qa (Ye Z Z (Y3 hc2n hxs.1)) Z (Qa (Qf Z) Z (Qc (Q6 (Yk (k + 1) (by omega) ⟨Z,Z,Z,Z,trivial⟩ ⟨E,(by omega),(by omega),Vi hp (by assumption) (by omega) (by simpa using hc3)⟩)))))))))
  ·have hc2n : ¬ k < xs.length:=by first | (have h:=of_decide_eq_false hc2;omega) | (have h:=hc2;simp at h;omega)
   refine Yq (Q5 (Q3 ?_))
   refine Qe (Qh [true] Z Z (Qa (Qf Z) Z (Qc (Qv (Qm Z Z E ?_)))))
   exact Gc hp hc1n (by omega)

set_option maxRecDepth 20000 in
theorem c_toNews (x : News) (w : World)  : Ct Tryz.prog 65 [.agg (Enc.enc x).toArray] w (fun v _=>v = .agg (Enc.enc x).toArray):=by
 refine Ym Tryz.func65 Z Tryz.ntmps65 Z ?_
 refine Q8 [(0,.agg (Enc.enc x).toArray)] ⟨Z,trivial⟩ ?_
 have E : Ext w w:=Ext.refl w
 refine Qe (Qh [false,false] Z Z (Y1 Z Z (fun b1 w1 e1 s1 h1=>?_)))
 have g_b1 : w.heap.size ≤ b1:=by have:=E.size;omega
 have y_b1:=h1.lt
 replace E:=E.trans e1
 have z1:=e1.size
 refine Yo Ty Z (fun b2 w2 e2 s2 h2=>?_)
 have g_b2 : w.heap.size ≤ b2:=by have:=E.size;omega
 have y_b2:=h2.lt
 replace E:=E.trans e2;replace h1:=h1.ext e2
 have z2:=e2.size
 refine Qc (Qe (Qh [false] Z Z (Yo Ty Z (fun b3 w3 e3 s3 h3=>?_))))
 have g_b3 : w.heap.size ≤ b3:=by have:=E.size;omega
 have y_b3:=h3.lt
 replace E:=E.trans e3;replace h1:=h1.ext e3;replace h2:=h2.ext e3
 have z3:=e3.size
 refine Qc (Qe (Qh [true,true,true,false] Z Z (Qa (Qb fl123_0 Z) Z (Qa (Qk Yt Z (h1.one 0 Z)) Z (Qa (Qb Tk Z) Z (Yj (cs':=[.int .i64 x.dest,.int .i64 0,.bool false]) Yt Z Z Z h3 (Nat.le_of_ble_eq_true Z) Z (fun w4 m1 h3'=>?_)))))))
 replace h3:=h3'
 replace E:=E.step m1 (fun g hg=>by cases hg;omega);replace h1:=h1.mod m1 (fun g hg=>by cases hg;omega);replace h2:=h2.mod m1 (fun g hg=>by cases hg;omega)
 have z4:=m1.size
 refine Qc (Qe (Qh [true,true,true,false] Z Z (Qa (Qb fl123_1 Z) Z (Qa (Qk Yt Z (h1.one 1 Z)) Z (Qa (Qb Tj Z) Z (Yj (cs':=[.int .i64 x.dest,.int .i64 x.epoch,.bool false]) Yt Z Z Z h3 (Nat.le_of_ble_eq_true Z) Z (fun w5 m2 h3'=>?_)))))))
 replace h3:=h3'
 replace E:=E.step m2 (fun g hg=>by cases hg;omega);replace h1:=h1.mod m2 (fun g hg=>by cases hg;omega);replace h2:=h2.mod m2 (fun g hg=>by cases hg;omega)
 have z5:=m2.size
 refine Qc (Qe (Qh [true,true,true,false] Z Z (Qa (Qb fl123_2 Z) Z (Qa (Qk Hs Z (h1.one 2 Z)) Z (Qa (Qb Ai Z) Z (Yj (cs':=[.int .i64 x.dest,.int .i64 x.epoch,.bool x.capped]) Hs Z Z Z h3 (Nat.le_of_ble_eq_true Z) Z (fun w6 m3 h3'=>?_)))))))
 replace h3:=h3'
 replace E:=E.step m3 (fun g hg=>by cases hg;omega);replace h1:=h1.mod m3 (fun g hg=>by cases hg;omega);replace h2:=h2.mod m3 (fun g hg=>by cases hg;omega)
 have z6:=m3.size
 refine Qc (Qe (Qh [true,false] Z Z (Qa (Qy Ty Z h3.at Z) Z (Q4 (cs':=[.int .i64 x.dest,.int .i64 x.epoch,.bool x.capped]) Ty Z Z Z Z h2 (Nat.le_of_ble_eq_true Z) Z (fun w7 m4 h2'=>?_)))))
 replace h2:=h2'
 replace E:=E.step m4 (fun g hg=>by cases hg;omega);replace h1:=h1.mod m4 (fun g hg=>by cases hg;omega);replace h3:=h3.mod m4 (fun g hg=>by cases hg;omega)
 have z7:=m4.size
 refine Qc (Qv (X3 Z Z (Yd Ty h2.at Z) E ?_))
 rfl

set_option maxRecDepth 20000 in
theorem c_eqNews (x : News) (y : News) (w : World)  : Ct Tryz.prog 76 [.agg (Enc.enc x).toArray,.agg (Enc.enc y).toArray] w (fun v _=>v = .bool (decide (x = y))):=by
 refine Ym Tryz.func76 Z Tryz.ntmps76 Z ?_
 refine Q8 [(0,.agg (Enc.enc x).toArray),(1,.agg (Enc.enc y).toArray)] ⟨Z,Z,trivial⟩ ?_
 have E : Ext w w:=Ext.refl w
 refine Qe (Qh [false,false,true] Z Z (Y1 Z Z (fun b1 w1 e1 s1 h1=>?_)))
 have g_b1 : w.heap.size ≤ b1:=by have:=E.size;omega
 have y_b1:=h1.lt
 replace E:=E.trans e1
 have z1:=e1.size
 refine Y1 Z Z (fun b2 w2 e2 s2 h2=>?_)
 have g_b2 : w.heap.size ≤ b2:=by have:=E.size;omega
 have y_b2:=h2.lt
 replace E:=E.trans e2;replace h1:=h1.ext e2
 have z2:=e2.size
 refine Qa (Qf Z) Z (Qc (Qe (Qe (Qh [true,true,true,true,true] Z Z (Qa (Qb Tk Z) Z (Qa (Qk Yt Z (h1.one 0 Z)) Z (Qa (Qb Tk Z) Z (Qa (Qk Yt Z (h2.one 0 Z)) Z (Qa (Yu Z Z) Z (Qc (Qt Z (fun hc1=>?_) (fun hc1=>?_))))))))))))
 ·refine Qe (Qh [true] Z Z (Qa (Qf Z) Z (Qc (Qv (Qm Z Z E ?_)))))
  cases x;cases y;simp_all
 ·refine Qo (Qe (Qe (Qh [true,true,true,true,true] Z Z (Qa (Qb Tj Z) Z (Qa (Qk Yt Z (h1.one 1 Z)) Z (Qa (Qb Tj Z) Z (Qa (Qk Yt Z (h2.one 1 Z)) Z (Qa (Yu Z Z) Z (Qc (Qt Z (fun hc2=>?_) (fun hc2=>?_)))))))))))
  ·refine Qe (Qh [true] Z Z (Qa (Qf Z) Z (Qc (Qv (Qm Z Z E ?_)))))
   cases x;cases y;simp_all
  ·refine Qo (Qe (Qe (Qh [true,true,true,true,true] Z Z (Qa (Qb Ai Z) Z (Qa (Qk Hs Z (h1.one 2 Z)) Z (Qa (Qb Ai Z) Z (Qa (Qk Hs Z (h2.one 2 Z)) Z (Qa (U8 (Tryz.underlying4) Z Z) Z (Qc (Qt Z (fun hc3=>?_) (fun hc3=>?_)))))))))))
   ·refine Qe (Qh [true] Z Z (Qa (Qf Z) Z (Qc (Qv (Qm Z Z E ?_)))))
    cases x;cases y;simp_all
   ·refine Qo (Qe (Qh [true] Z Z (Qa (Qf Z) Z (Qc (Qv (Qm Z Z E ?_))))))
    cases x;cases y;simp_all

set_option maxRecDepth 20000 in
theorem c_szNewsS (vxs : Value) (xs : List News) (n : Int) (w : World) (hxs : RdS w vxs xs) (h0 : 0 ≤ n ∧ n ≤ 1048576) : Ct Tryz.prog 18 [vxs,.int .i64 n] w (fun v _=>v = .int .i64 (Uk xs.length n)):=by
 refine Ym Tryz.func18 Z Tryz.ntmps18 Z ?_
 refine Q8 [(0,vxs),(1,.int .i64 n)] ⟨Z,Z,trivial⟩ ?_
 have E : Ext w w:=Ext.refl w
 refine Qe (Qh [true] Z Z (Qa (Qf Z) Z (Qc (Qe (Qh [true,true,true,true,true] Z Z (Qa (Qd Z) Z (Qa (Qd Z) Z (Qa (Yc Tryz.underlying28 Z (hxs.ext E).len) Z (Qa (K6 Z Z Z) Z (Qa (Qf Z) Z (Qc (Qe (Qe (Qh [true,true] Z Z (Qa (Qd Z) Z (Qa (Yi Z Z) Z (Qc (Qt Z (fun hc1=>?_) (fun hc1=>?_)))))))))))))))))))
 ·refine Qe (Qh [true] Z Z (Qa (Qf Z) Z (Qc (Qv (Qm Z Z E ?_)))))
  exact Bj h0.2 h0.1 hxs.1 hc1
 ·refine Qo (Qe (Qh [true,true] Z Z (Qa (Qd Z) Z (Qa (Qf Z) Z (Qc (Qv (Qm Z Z E ?_)))))))
  exact Cv h0.2 h0.1 hxs.1 hc1

set_option maxRecDepth 20000 in
theorem c_toNewsS (vxs : Value) (xs : List News) (w : World) (hxs : RdS w vxs xs) (hb : xs.length ≤ 1048576) : Ct Tryz.prog 25 [vxs] w (fun v w'=>Own w' w.heap.size w'.heap.size 3 v (List.flatMap (Enc.enc (α:=News)) xs)):=by
 refine Ym Tryz.func25 Z Tryz.ntmps25 Z ?_
 refine Q8 [(0,vxs)] ⟨Z,trivial⟩ ?_
 have E : Ext w w:=Ext.refl w
 refine Qe (Qh [true] Z Z (Qa (Qf Z) Z (Qc (Qe (Qh [true,true,false,true] Z Z (Qa (Qd Z) Z (Qa (Yc Tryz.underlying28 Z (hxs.ext E).len) Z (Hp (m:=xs.length) Cn Z Z (by omega) (by decide) Z (fun b1 w1 e1 s1 h1=>?_)))))))))
 have g_b1 : w.heap.size ≤ b1:=by have:=E.size;omega
 have y_b1:=h1.lt
 replace E:=E.trans e1
 have z1:=e1.size
 refine Qa (Qf Z) Z (Qc (Qe (Qe (Qh [true] Z Z (Qa (Qf Z) Z (Qc (Q0 (Yp (fun (k : Nat)=>[(0,vxs),(2,.slice none 0 0),(3,.slice (some ⟨b1,0,none⟩) xs.length xs.length),(4,.int .i64 ((k : Nat) : Int))]) (fun (k : Nat) w'=>Ext w w' ∧ w1.heap.size ≤ w'.heap.size ∧ k ≤ xs.length ∧ Blk w' b1 (mk xs [.int .i64 0,.int .i64 0,.bool false] k xs.length)) (fun (k : Nat)=>xs.length - k) 0 ⟨Z,Z,Z,Z,trivial⟩ ⟨E,Nat.le_refl _,Nat.zero_le _,(H4 xs [.int .i64 0,.int .i64 0,.bool false] xs.length) ▸ h1⟩ ?_))))))))
 clear E h1
 rintro k w2 ⟨E,z2,hk,h1⟩
 refine Qe (Qe (Qh [true,true,true,true] Z Z (Qa (Qd Z) Z (Qa (Qd Z) Z (Qa (Yc Tryz.underlying28 Z (hxs.ext E).len) Z (Qa (Yi Z Z) Z (Qc (Qt Z (fun hc1=>?_) (fun hc1=>?_)))))))))
 ·have hc1n : k < xs.length:=by first | (have h:=of_decide_eq_true hc1;omega) | (have h:=hc1;simp at h;omega)
  refine Qo (Qe (Q0 (Qh [true,true,true,true,true,true,false,true,false] Z Z (Qa (Qd Z) Z (Qa (Qd Z) Z (Qa (Qd Z) Z (Qa (Qd Z) Z ?_)))))))
  have hi1 : k < xs.length:=(by first | assumption | omega | (simp only [List.length_set];first | assumption | omega) | (simp only [List.getElem_set_self,List.length_set];first | assumption | omega) | (simp only [Yn,Yh,List.length_set];first | assumption | omega))
  refine Qa (Qz (i:=k) sl28 Z Z (hxs.ext E) hi1) Z (Qa (Qy st123 Z ((hxs.ext E).get hi1) Z) Z (Qw Tryz.call65 Z (c_toNews (xs[k]'hi1) _ ) Z (fun _ w3 e2 hv=>?_)))
  subst hv
  replace E:=E.trans e2;replace h1:=h1.ext e2
  have z3:=e2.size
  refine Qa (Vj Cn Z Z (by first | assumption | omega | (simp only [List.length_set];first | assumption | omega) | (simp only [List.getElem_set_self,List.length_set];first | assumption | omega) | (simp only [Yn,Yh,List.length_set];first | assumption | omega))) Z (Q4 (cs':=mk xs [.int .i64 0,.int .i64 0,.bool false] (k + 1) xs.length) Ty Z Z Z Z h1 (H6 xs [.int .i64 0,.int .i64 0,.bool false] Z hc1n hc1n (by rfl)) (H5 xs [.int .i64 0,.int .i64 0,.bool false] Z hc1n hc1n) (fun w4 m1 h1'=>?_))
  replace h1:=h1'
  replace E:=E.step m1 (fun g hg=>by cases hg;omega)
  have z4:=m1.size
  refine Qc (Q6 (Y0 (Qh [true,true,true] Z Z (Qa (Qd Z) Z (Qa (Ye Z Z (Y3 hc1n hxs.1)) Z (Qa (Qf Z) Z (Qc (Q6 (Yk (k + 1) (by omega) ⟨Z,Z,Z,Z,trivial⟩ ⟨E,(by omega),(by omega),h1⟩)))))))))
 ·have hc1n : ¬ k < xs.length:=by first | (have h:=of_decide_eq_false hc1;omega) | (have h:=hc1;simp at h;omega)
  refine Yq (Q5 (Q3 ?_))
  refine Qe (Qh [true,true] Z Z (Qa (Qd Z) Z (Qa (Qf Z) Z (Qc (Qv (Qm Z Z E ?_))))))
  obtain rfl : k = xs.length:=by omega
  rw [C1] at h1
  exact Own.ofBlk h1 (by omega) (by have:=h1.lt;omega) (Yz xs) hxs.1

set_option maxRecDepth 20000 in
theorem c_eqNewsS (vxs : Value) (xs : List News) (vys : Value) (ys : List News) (w : World) (hxs : RdS w vxs xs) (hys : RdS w vys ys) : Ct Tryz.prog 34 [vxs,vys] w (fun v _=>v = .bool (decide (xs = ys))):=by
 refine Ym Tryz.func34 Z Tryz.ntmps34 Z ?_
 refine Q8 [(0,vxs),(1,vys)] ⟨Z,Z,trivial⟩ ?_
 have E : Ext w w:=Ext.refl w
 refine Qe (Qh [true] Z Z (Qa (Qf Z) Z (Qc (Qe (Qe (Qh [true,true,true,true,true] Z Z (Qa (Qd Z) Z (Qa (Yc Tryz.underlying38 Z (hxs.ext E).len) Z (Qa (Qd Z) Z (Qa (Yc Tryz.underlying38 Z (hys.ext E).len) Z (Qa (Yu Z Z) Z (Qc (Qt Z (fun hc1=>?_) (fun hc1=>?_))))))))))))))
 ·have hc1n : ¬ xs.length = ys.length:=by first | (have h:=of_decide_eq_true hc1;omega) | (have h:=hc1;simp at h;omega)
  refine Qe (Qh [true] Z Z (Qa (Qf Z) Z (Qc (Qv (Qm Z Z E ?_)))))
  simp [Hl hc1n]
 ·have hc1n : xs.length = ys.length:=by first | (have h:=of_decide_eq_false hc1;omega) | (have h:=hc1;simp at h;omega)
  refine Qo (Qe (Qe (Qh [true] Z Z (Qa (Qf Z) Z (Qc (Q0 (Yp (fun (k : Nat)=>[(0,vxs),(1,vys),(4,.bool false),(5,.int .i64 ((k : Nat) : Int))]) (fun (k : Nat) w'=>Ext w w' ∧ w.heap.size ≤ w'.heap.size ∧ k ≤ xs.length ∧ xs.take k = ys.take k) (fun (k : Nat)=>xs.length - k) 0 ⟨Z,Z,Z,Z,trivial⟩ ⟨E,Nat.le_refl _,Nat.zero_le _,Z⟩ ?_)))))))
  clear E
  rintro k w1 ⟨E,z1,hk,hp⟩
  refine Qe (Qe (Qh [true,true,true,true] Z Z (Qa (Qd Z) Z (Qa (Qd Z) Z (Qa (Yc Tryz.underlying38 Z (hxs.ext E).len) Z (Qa (Yi Z Z) Z (Qc (Qt Z (fun hc2=>?_) (fun hc2=>?_)))))))))
  ·have hc2n : k < xs.length:=by first | (have h:=of_decide_eq_true hc2;omega) | (have h:=hc2;simp at h;omega)
   refine Qo (Qe (Q0 (Qe (Xx Xs [(0,true),(1,true),(2,true),(3,true),(4,true),(5,true),(6,true),(7,true),(8,false),(9,true)] (by decide +kernel) Z (fun w2 e1=>?_)))))
   replace E:=E.trans e1
   have z2:=e1.size
   refine Qa (Qd Z) Z (Qa (Qd Z) Z ?_)
   have hi1 : k < xs.length:=(by first | assumption | omega | (simp only [List.length_set];first | assumption | omega) | (simp only [List.getElem_set_self,List.length_set];first | assumption | omega) | (simp only [Yn,Yh,List.length_set];first | assumption | omega))
   refine Qa (Qz (i:=k) Cn Z Z (hxs.ext E) hi1) Z (Qa (Qy Ty Z ((hxs.ext E).get hi1) Z) Z (Qa (Qd Z) Z (Qa (Qd Z) Z ?_)))
   have hi2 : k < ys.length:=(by first | assumption | omega | (simp only [List.length_set];first | assumption | omega) | (simp only [List.getElem_set_self,List.length_set];first | assumption | omega) | (simp only [Yn,Yh,List.length_set];first | assumption | omega))
   refine Qa (Qz (i:=k) Cn Z Z (hys.ext E) hi2) Z (Qa (Qy Ty Z ((hys.ext E).get hi2) Z) Z (Qw Tryz.call76 Z (c_eqNews (xs[k]'hi1) (ys[k]'hi2) _ ) Z (fun _ w3 e2 hv=>?_)))
   subst hv
   replace E:=E.trans e2
   have z3:=e2.size
   refine Qa (Yy Z) Z (Qc (Qt Z (fun hc3=>?_) (fun hc3=>?_)))
   ·refine Qe (Qh [true] Z Z (Qa (Qf Z) Z (Qc (Qv (Q2 (Yv (Q2 (Qm Z Z E ?_))))))))
    exact Hm (by omega) (by omega) (by simpa using hc3)
   ·refine Qo (Q6 (Y0 (Qh [true,true,true] Z Z (Qa (Qd Z) Z (Qa (Ye Z Z (Y3 hc2n hxs.1)) Z (Qa (Qf Z) Z (Qc (Q6 (Yk (k + 1) (by omega) ⟨Z,Z,Z,Z,trivial⟩ ⟨E,(by omega),(by omega),Vi hp (by assumption) (by omega) (by simpa using hc3)⟩)))))))))
  ·have hc2n : ¬ k < xs.length:=by first | (have h:=of_decide_eq_false hc2;omega) | (have h:=hc2;simp at h;omega)
   refine Yq (Q5 (Q3 ?_))
   refine Qe (Qh [true] Z Z (Qa (Qf Z) Z (Qc (Qv (Qm Z Z E ?_)))))
   exact Gc hp hc1n (by omega)

set_option maxRecDepth 20000 in
theorem c_szLink (cx : List Value) (x : Link) (n : Int) (w : World) (hx : Dat.R w 0 w.heap.size cx x) (h0 : 0 ≤ n ∧ n ≤ 1048576) : Ct Tryz.prog 55 [.agg cx.toArray,.int .i64 n] w (fun v _=>v = .int .i64 (Uk (Y5 x) n)):=by
 refine Ym Tryz.func55 Z Tryz.ntmps55 Z ?_
 obtain ⟨o1,rfl,hd1⟩:=Link.op hx
 refine Q8 [(0,.agg [.int .i64 x.cap,o1,.int .i64 x.credits,.int .i64 x.back,.int .i64 x.sent,.int .i64 x.got].toArray),(1,.int .i64 n)] ⟨Z,Z,trivial⟩ ?_
 have E : Ext w w:=Ext.refl w
 refine Qe (Qh [false,true] Z Z (Y1 Z Z (fun b1 w1 e1 s1 h1=>?_)))
 have g_b1 : w.heap.size ≤ b1:=by have:=E.size;omega
 have y_b1:=h1.lt
 replace E:=E.trans e1
 have z1:=e1.size
 refine Qa (Qf Z) Z (Qc (Qe (Qh [true,true,true,false,true] Z Z (Qa (Qb fl110_1 Z) Z (Qa (Qk Az Z (h1.one 1 Z)) Z (Qa (Qd Z) Z (Qw Tryz.call94 Z (c_szRecordS o1 x.queue n _ (hd1.rd.ext E) (by first | omega | (simp only [Qi];omega) | (rw [Qi];done) | (simp only [Qi];done))) Z (fun _ w2 e2 hv=>?_))))))))
 subst hv
 replace E:=E.trans e2;replace h1:=h1.ext e2
 have z2:=e2.size
 refine Qa (Qf Z) Z (Qc (Qe (Qe (Qh [true,true] Z Z (Qa (Qd Z) Z (Qa (Yi Z Z) Z (Qc (Qt Z (fun hc1=>?_) (fun hc1=>?_)))))))))
 ·have q1:=Uj hc1 (by omega)
  refine Qe (Qh [true] Z Z (Qa (Qf Z) Z (Qc (Qv (Qm Z Z E ?_)))))
  first | exact Kd (by unfold Y5;omega) | exact Ks (by unfold Y5;omega) (by unfold Y5;omega)
 ·have q2:=Ui hc1 (by omega)
  refine Qo (Qe (Qh [true,true] Z Z (Qa (Qd Z) Z (Qa (Qf Z) Z (Qc (Qv (Qm Z Z E ?_)))))))
  first | exact Kd (by unfold Y5;omega) | exact Ks (by unfold Y5;omega) (by unfold Y5;omega)

set_option maxRecDepth 20000 in
theorem c_toLink (cx : List Value) (x : Link) (w : World) (hx : Dat.R w 0 w.heap.size cx x) (hb : Y5 x ≤ 1048576) : Ct Tryz.prog 63 [.agg cx.toArray] w (fun v w'=>∃ cs,v = .agg cs.toArray ∧ Own1.O w' w.heap.size w'.heap.size cs x):=by
 unfold Y5 at hb
 refine Ym Tryz.func63 Z Tryz.ntmps63 Z ?_
 obtain ⟨o1,rfl,hd1⟩:=Link.op hx
 refine Q8 [(0,.agg [.int .i64 x.cap,o1,.int .i64 x.credits,.int .i64 x.back,.int .i64 x.sent,.int .i64 x.got].toArray)] ⟨Z,trivial⟩ ?_
 have E : Ext w w:=Ext.refl w
 refine Qe (Qh [false,false] Z Z (Y1 Z Z (fun b1 w1 e1 s1 h1=>?_)))
 have g_b1 : w.heap.size ≤ b1:=by have:=E.size;omega
 have y_b1:=h1.lt
 replace E:=E.trans e1
 have z1:=e1.size
 refine Yo X4 Z (fun b2 w2 e2 s2 h2=>?_)
 have g_b2 : w.heap.size ≤ b2:=by have:=E.size;omega
 have y_b2:=h2.lt
 replace E:=E.trans e2;replace h1:=h1.ext e2
 have z2:=e2.size
 refine Qc (Qe (Qh [false] Z Z (Yo X4 Z (fun b3 w3 e3 s3 h3=>?_))))
 have g_b3 : w.heap.size ≤ b3:=by have:=E.size;omega
 have y_b3:=h3.lt
 replace E:=E.trans e3;replace h1:=h1.ext e3;replace h2:=h2.ext e3
 have z3:=e3.size
 refine Qc (Qe (Qh [true,true,true,false] Z Z (Qa (Qb fl110_0 Z) Z (Qa (Qk Yt Z (h1.one 0 Z)) Z (Qa (Qb Vo Z) Z (Yj (cs':=[.int .i64 x.cap,.slice none 0 0,.int .i64 0,.int .i64 0,.int .i64 0,.int .i64 0]) Yt Z Z Z h3 (Nat.le_of_ble_eq_true Z) Z (fun w4 m1 h3'=>?_)))))))
 replace h3:=h3'
 replace E:=E.step m1 (fun g hg=>by cases hg;omega);replace h1:=h1.mod m1 (fun g hg=>by cases hg;omega);replace h2:=h2.mod m1 (fun g hg=>by cases hg;omega)
 have z4:=m1.size
 refine Qc (Qe (Qh [true,true,false,true,false] Z Z (Qa (Qb fl110_1 Z) Z (Qa (Qk Az Z (h1.one 1 Z)) Z (Qw Tryz.call108 Z (c_toRecordS o1 x.queue _ (hd1.rd.ext E) (by first | omega | (simp only [Qi];omega) | (rw [Qi];done) | (simp only [Qi];done))) Z (fun v1 w5 e4 ho1=>?_))))))
 have g_ho1 : w.heap.size ≤ w4.heap.size:=E.size
 replace E:=E.trans e4;replace h1:=h1.ext e4;replace h2:=h2.ext e4;replace h3:=h3.ext e4
 have z5:=e4.size
 refine Qa (Qb Kv Z) Z (Yj (cs':=[.int .i64 x.cap,v1,.int .i64 0,.int .i64 0,.int .i64 0,.int .i64 0]) Xq Z Z ho1.one h3 (Nat.le_of_ble_eq_true Z) Z (fun w6 m2 h3'=>?_))
 replace h3:=h3'
 replace E:=E.step m2 (fun g hg=>by cases hg;omega);replace h1:=h1.mod m2 (fun g hg=>by cases hg;omega);replace h2:=h2.mod m2 (fun g hg=>by cases hg;omega);replace ho1:=ho1.mod m2 (fun g hg=>by cases hg;omega)
 have z6:=m2.size
 refine Qc (Qe (Qh [true,true,true,false] Z Z (Qa (Qb fl110_2 Z) Z (Qa (Qk Yt Z (h1.one 2 Z)) Z (Qa (Qb Vn Z) Z (Yj (cs':=[.int .i64 x.cap,v1,.int .i64 x.credits,.int .i64 0,.int .i64 0,.int .i64 0]) Yt Z Z Z h3 (Nat.le_of_ble_eq_true Z) Z (fun w7 m3 h3'=>?_)))))))
 replace h3:=h3'
 replace E:=E.step m3 (fun g hg=>by cases hg;omega);replace h1:=h1.mod m3 (fun g hg=>by cases hg;omega);replace h2:=h2.mod m3 (fun g hg=>by cases hg;omega);replace ho1:=ho1.mod m3 (fun g hg=>by cases hg;omega)
 have z7:=m3.size
 refine Qc (Qe (Qh [true,true,true,false] Z Z (Qa (Qb fl110_3 Z) Z (Qa (Qk Yt Z (h1.one 3 Z)) Z (Qa (Qb Ti Z) Z (Yj (cs':=[.int .i64 x.cap,v1,.int .i64 x.credits,.int .i64 x.back,.int .i64 0,.int .i64 0]) Yt Z Z Z h3 (Nat.le_of_ble_eq_true Z) Z (fun w8 m4 h3'=>?_)))))))
 replace h3:=h3'
 replace E:=E.step m4 (fun g hg=>by cases hg;omega);replace h1:=h1.mod m4 (fun g hg=>by cases hg;omega);replace h2:=h2.mod m4 (fun g hg=>by cases hg;omega);replace ho1:=ho1.mod m4 (fun g hg=>by cases hg;omega)
 have z8:=m4.size
 refine Qc (Qe (Qh [true,true,true,false] Z Z (Qa (Qb fl110_4 Z) Z (Qa (Qk Yt Z (h1.one 4 Z)) Z (Qa (Qb Vm Z) Z (Yj (cs':=[.int .i64 x.cap,v1,.int .i64 x.credits,.int .i64 x.back,.int .i64 x.sent,.int .i64 0]) Yt Z Z Z h3 (Nat.le_of_ble_eq_true Z) Z (fun w9 m5 h3'=>?_)))))))
 replace h3:=h3'
 replace E:=E.step m5 (fun g hg=>by cases hg;omega);replace h1:=h1.mod m5 (fun g hg=>by cases hg;omega);replace h2:=h2.mod m5 (fun g hg=>by cases hg;omega);replace ho1:=ho1.mod m5 (fun g hg=>by cases hg;omega)
 have z9:=m5.size
 refine Qc (Qe (Qh [true,true,true,false] Z Z (Qa (Qb fl110_5 Z) Z (Qa (Qk Yt Z (h1.one 5 Z)) Z (Qa (Qb Th Z) Z (Yj (cs':=[.int .i64 x.cap,v1,.int .i64 x.credits,.int .i64 x.back,.int .i64 x.sent,.int .i64 x.got]) Yt Z Z Z h3 (Nat.le_of_ble_eq_true Z) Z (fun w10 m6 h3'=>?_)))))))
 replace h3:=h3'
 replace E:=E.step m6 (fun g hg=>by cases hg;omega);replace h1:=h1.mod m6 (fun g hg=>by cases hg;omega);replace h2:=h2.mod m6 (fun g hg=>by cases hg;omega);replace ho1:=ho1.mod m6 (fun g hg=>by cases hg;omega)
 have z10:=m6.size
 refine Qc (Qe (Qh [true,false] Z Z (Qa (Qy X4 Z h3.at Z) Z (Q4 (cs':=[.int .i64 x.cap,v1,.int .i64 x.credits,.int .i64 x.back,.int .i64 x.sent,.int .i64 x.got]) X4 Z Z Z (Qj Z (Qj ho1.one (Qj Z (Qj Z (Qj Z (Qj Z Z)))))) h2 (Nat.le_of_ble_eq_true Z) Z (fun w11 m7 h2'=>?_)))))
 replace h2:=h2'
 replace E:=E.step m7 (fun g hg=>by cases hg;omega);replace h1:=h1.mod m7 (fun g hg=>by cases hg;omega);replace h3:=h3.mod m7 (fun g hg=>by cases hg;omega);replace ho1:=ho1.mod m7 (fun g hg=>by cases hg;omega)
 have z11:=m7.size
 refine Qc (Qv (X3 Z Z (Yd X4 h2.at Z) E ?_))
 exact ⟨_,Z,Link.mkO x ⟨trivial,trivial⟩ (Own.widen ho1 (by omega) (by omega))⟩

set_option maxRecDepth 20000 in
theorem c_eqLink (cx : List Value) (x : Link) (cy : List Value) (y : Link) (w : World) (hx : Dat.R w 0 w.heap.size cx x) (hy : Dat.R w 0 w.heap.size cy y) : Ct Tryz.prog 74 [.agg cx.toArray,.agg cy.toArray] w (fun v _=>v = .bool (decide (x = y))):=by
 refine Ym Tryz.func74 Z Tryz.ntmps74 Z ?_
 obtain ⟨o1,rfl,hd1⟩:=Link.op hx
 obtain ⟨o2,rfl,hd2⟩:=Link.op hy
 refine Q8 [(0,.agg [.int .i64 x.cap,o1,.int .i64 x.credits,.int .i64 x.back,.int .i64 x.sent,.int .i64 x.got].toArray),(1,.agg [.int .i64 y.cap,o2,.int .i64 y.credits,.int .i64 y.back,.int .i64 y.sent,.int .i64 y.got].toArray)] ⟨Z,Z,trivial⟩ ?_
 have E : Ext w w:=Ext.refl w
 refine Qe (Qh [false,false,true] Z Z (Y1 Z Z (fun b1 w1 e1 s1 h1=>?_)))
 have g_b1 : w.heap.size ≤ b1:=by have:=E.size;omega
 have y_b1:=h1.lt
 replace E:=E.trans e1
 have z1:=e1.size
 refine Y1 Z Z (fun b2 w2 e2 s2 h2=>?_)
 have g_b2 : w.heap.size ≤ b2:=by have:=E.size;omega
 have y_b2:=h2.lt
 replace E:=E.trans e2;replace h1:=h1.ext e2
 have z2:=e2.size
 refine Qa (Qf Z) Z (Qc (Qe (Qe (Qh [true,true,true,true,true] Z Z (Qa (Qb Vo Z) Z (Qa (Qk Yt Z (h1.one 0 Z)) Z (Qa (Qb Vo Z) Z (Qa (Qk Yt Z (h2.one 0 Z)) Z (Qa (Yu Z Z) Z (Qc (Qt Z (fun hc1=>?_) (fun hc1=>?_))))))))))))
 ·refine Qe (Qh [true] Z Z (Qa (Qf Z) Z (Qc (Qv (Qm Z Z E ?_)))))
  cases x;cases y;simp_all
 ·refine Qo (Qe (Qe (Qh [true,true,true,true,false,true] Z Z (Qa (Qb Kv Z) Z (Qa (Qk Xq Z (h1.one 1 Z)) Z (Qa (Qb Kv Z) Z (Qa (Qk Xq Z (h2.one 1 Z)) Z (Qw Tryz.call121 Z (c_eqRecordS o1 x.queue o2 y.queue _ (hd1.rd.ext E) (hd2.rd.ext E)) Z (fun _ w3 e3 hv=>?_)))))))))
  subst hv
  replace E:=E.trans e3;replace h1:=h1.ext e3;replace h2:=h2.ext e3
  have z3:=e3.size
  refine Qa (Yy Z) Z (Qc (Qt Z (fun hc2=>?_) (fun hc2=>?_)))
  ·refine Qe (Qh [true] Z Z (Qa (Qf Z) Z (Qc (Qv (Qm Z Z E ?_)))))
   cases x;cases y;simp_all
  ·refine Qo (Qe (Qe (Qh [true,true,true,true,true] Z Z (Qa (Qb Vn Z) Z (Qa (Qk Yt Z (h1.one 2 Z)) Z (Qa (Qb Vn Z) Z (Qa (Qk Yt Z (h2.one 2 Z)) Z (Qa (Yu Z Z) Z (Qc (Qt Z (fun hc3=>?_) (fun hc3=>?_)))))))))))
   ·refine Qe (Qh [true] Z Z (Qa (Qf Z) Z (Qc (Qv (Qm Z Z E ?_)))))
    cases x;cases y;simp_all
   ·refine Qo (Qe (Qe (Qh [true,true,true,true,true] Z Z (Qa (Qb Ti Z) Z (Qa (Qk Yt Z (h1.one 3 Z)) Z (Qa (Qb Ti Z) Z (Qa (Qk Yt Z (h2.one 3 Z)) Z (Qa (Yu Z Z) Z (Qc (Qt Z (fun hc4=>?_) (fun hc4=>?_)))))))))))
    ·refine Qe (Qh [true] Z Z (Qa (Qf Z) Z (Qc (Qv (Qm Z Z E ?_)))))
     cases x;cases y;simp_all
    ·refine Qo (Qe (Qe (Qh [true,true,true,true,true] Z Z (Qa (Qb Vm Z) Z (Qa (Qk Yt Z (h1.one 4 Z)) Z (Qa (Qb Vm Z) Z (Qa (Qk Yt Z (h2.one 4 Z)) Z (Qa (Yu Z Z) Z (Qc (Qt Z (fun hc5=>?_) (fun hc5=>?_)))))))))))
     ·refine Qe (Qh [true] Z Z (Qa (Qf Z) Z (Qc (Qv (Qm Z Z E ?_)))))
      cases x;cases y;simp_all
     ·refine Qo (Qe (Qe (Qh [true,true,true,true,true] Z Z (Qa (Qb Th Z) Z (Qa (Qk Yt Z (h1.one 5 Z)) Z (Qa (Qb Th Z) Z (Qa (Qk Yt Z (h2.one 5 Z)) Z (Qa (Yu Z Z) Z (Qc (Qt Z (fun hc6=>?_) (fun hc6=>?_)))))))))))
      ·refine Qe (Qh [true] Z Z (Qa (Qf Z) Z (Qc (Qv (Qm Z Z E ?_)))))
       cases x;cases y;simp_all
      ·refine Qo (Qe (Qh [true] Z Z (Qa (Qf Z) Z (Qc (Qv (Qm Z Z E ?_))))))
       cases x;cases y;simp_all

set_option maxRecDepth 20000 in
theorem c_szLinkS (vxs : Value) (xs : List Link) (n : Int) (w : World) (hxs : RdD w 0 w.heap.size vxs xs) (h0 : 0 ≤ n ∧ n ≤ 1048576) : Ct Tryz.prog 16 [vxs,.int .i64 n] w (fun v _=>v = .int .i64 (Uk (X0 Y5 xs) n)):=by
 have hlm:=hxs.1.1
 unfold maxLen at hlm
 refine Ym Tryz.func16 Z Tryz.ntmps16 Z ?_
 refine Q8 [(0,vxs),(1,.int .i64 n)] ⟨Z,Z,trivial⟩ ?_
 have E : Ext w w:=Ext.refl w
 refine Qe (Qh [true] Z Z (Qa (Qf Z) Z (Qc (Qe (Qh [true,true,true,true,true] Z Z (Qa (Qd Z) Z (Qa (Qd Z) Z (Qa (Yc Tryz.underlying26 Z (hxs.ext E).len) Z (Qa (K6 Z Z (Ki (by omega) (by omega))) Z (Qa (Qf Z) Z (Qc (Qe (Qe (Qh [true,true] Z Z (Qa (Qd Z) Z (Qa (Yi Z Z) Z (Qc (Qt Z (fun hc1=>?_) (fun hc1=>?_)))))))))))))))))))
 ·refine Qe (Qh [true] Z Z (Qa (Qf Z) Z (Qc (Qv (Qm Z Z E ?_)))))
  exact Kd (by have:=of_decide_eq_true hc1;unfold X0;omega)
 ·refine Qo (Qe (Qe (Qh [true] Z Z (Qa (Qf Z) Z (Qc (Q0 (Yp (fun (xq : Nat × Int)=>let ⟨k,l⟩:=xq;[(0,vxs),(1,.int .i64 l),(4,.int .i64 0),(5,.int .i64 ((k : Nat) : Int))]) (fun (xq : Nat × Int) w'=>let ⟨k,l⟩:=xq;Ext w w' ∧ w.heap.size ≤ w'.heap.size ∧ k ≤ xs.length ∧ 0 ≤ l ∧ l ≤ 1048576 ∧ l = n - ((xs.length : Nat) : Int) - ((((xs.take k).map Y5).sum : Nat) : Int)) (fun (xq : Nat × Int)=>let ⟨k,l⟩:=xq;xs.length - k) (0,n - ((xs.length : Nat) : Int)) ⟨Z,Z,Z,Z,trivial⟩ ⟨E,Nat.le_refl _,Nat.zero_le _,(by have:=of_decide_eq_false hc1;simp;omega)⟩ ?_)))))))
  clear E
  rintro ⟨k,l⟩ w1 ⟨E,z1,hk,hl⟩
  refine Q8 [(0,vxs),(1,.int .i64 l),(4,.int .i64 0),(5,.int .i64 ((k : Nat) : Int))] ⟨Z,Z,Z,Z,trivial⟩ ?_
  refine Qe (Qe (Qh [true,true,true,true] Z Z (Qa (Qd Z) Z (Qa (Qd Z) Z (Qa (Yc Tryz.underlying26 Z (hxs.ext E).len) Z (Qa (Yi Z Z) Z (Qc (Qt Z (fun hc2=>?_) (fun hc2=>?_)))))))))
  ·have hc2n : k < xs.length:=by first | (have h:=of_decide_eq_true hc2;omega) | (have h:=hc2;simp at h;omega)
   refine Qo (Qe (Q0 (Qe (Qh [true,true,true,true,true,false,true] Z Z (Qa (Qd Z) Z (Qa (Qd Z) Z ?_))))))
   have hi1 : k < xs.length:=(by first | assumption | omega | (simp only [List.length_set];first | assumption | omega) | (simp only [List.getElem_set_self,List.length_set];first | assumption | omega) | (simp only [Yn,Yh,List.length_set];first | assumption | omega))
   obtain ⟨_,hr1,ha1⟩:=RdD.get hxs hi1
   obtain ⟨o1,rfl,hd1⟩:=Link.op hr1
   replace ha1 : At w (Y6 vxs) (Y8 vxs + k * 6) [.int .i64 ((xs[k]'hi1).cap),o1,.int .i64 ((xs[k]'hi1).credits),.int .i64 ((xs[k]'hi1).back),.int .i64 ((xs[k]'hi1).sent),.int .i64 ((xs[k]'hi1).got)]:=ha1
   refine Qa (Qz (i:=k) sl26 Z Z (hxs.ext E).1 hi1) Z (Qa (Qy st110 Z (ha1.ext E) Z) Z (Qa (Qd Z) Z (Qw Tryz.call55 Z (c_szLink [.int .i64 ((xs[k]'hi1).cap),o1,.int .i64 ((xs[k]'hi1).credits),.int .i64 ((xs[k]'hi1).back),.int .i64 ((xs[k]'hi1).sent),.int .i64 ((xs[k]'hi1).got)] (xs[k]'hi1) l _ (Link.mkR (xs[k]'hi1) (RdD.any (hd1.ext E))) (by first | omega | (simp only [Qi];omega) | (rw [Qi];done) | (simp only [Qi];done))) Z (fun _ w2 e1 hv=>?_))))
   subst hv
   replace E:=E.trans e1
   have z2:=e1.size
   refine Qa (Qf Z) Z (Qc (Qe (Qh [true,true] Z Z (Qa (Qd Z) Z (Qa (Yi Z Z) Z (Qc (Qt Z (fun hc3=>?_) (fun hc3=>?_))))))))
   ·have q1:=Uj hc3 (by omega)
    refine Qe (Qh [true] Z Z (Qa (Qf Z) Z (Qc (Qv (Q2 (Yv (Q2 (Qm Z Z E ?_))))))))
    exact Kd (by have:=V3 (f:=Y5) (show k < xs.length by omega);unfold X0;omega)
   ·have q2:=Ui hc3 (by omega)
    refine Qo (Q6 (Y0 (Qh [true,true,true] Z Z (Qa (Qd Z) Z (Qa (Ye Z Z (Y3 hc2n (hxs.ext E).1.1)) Z (Qa (Qf Z) Z (Qc (Q6 (Yk (k + 1,Uk (Y5 (xs[k]'hi1)) l) (by simp;omega) ⟨Z,Z,Z,Z,trivial⟩ ⟨E,(by omega),(by omega),(by have:=Bk (f:=Y5) (show k < xs.length by omega);omega)⟩)))))))))
  ·have hc2n : ¬ k < xs.length:=by first | (have h:=of_decide_eq_false hc2;omega) | (have h:=hc2;simp at h;omega)
   refine Yq (Q5 (Q3 ?_))
   refine Qe (Qh [true,true] Z Z (Qa (Qd Z) Z (Qa (Qf Z) Z (Qc (Qv (Qm Z Z E ?_))))))
   have:=sum_all (f:=Y5) (show xs.length ≤ k by omega);exact Ks (by unfold X0;omega) (by unfold X0;omega)

set_option maxRecDepth 20000 in
theorem c_toLinkS (vxs : Value) (xs : List Link) (w : World) (hxs : RdD w 0 w.heap.size vxs xs) (hb : X0 Y5 xs ≤ 1048576) : Ct Tryz.prog 23 [vxs] w (fun v w'=>OwS (α:=Link) w' w.heap.size w'.heap.size v xs):=by
 unfold X0 at hb
 refine Ym Tryz.func23 Z Tryz.ntmps23 Z ?_
 refine Q8 [(0,vxs)] ⟨Z,trivial⟩ ?_
 have E : Ext w w:=Ext.refl w
 refine Qe (Qh [true] Z Z (Qa (Qf Z) Z (Qc (Qe (Qh [true,true,false,true] Z Z (Qa (Qd Z) Z (Qa (Yc Tryz.underlying26 Z (hxs.ext E).len) Z (Hp (m:=xs.length) Vl Z Z (by omega) (by decide) Z (fun b1 w1 e1 s1 h1=>?_)))))))))
 have g_b1 : w.heap.size ≤ b1:=by have:=E.size;omega
 have y_b1:=h1.lt
 replace E:=E.trans e1
 have z1:=e1.size
 refine Qa (Qf Z) Z (Qc (Qe (Qe (Qh [true] Z Z (Qa (Qf Z) Z (Qc (Q0 (Yp (fun (xq : Nat × List (List Value))=>let ⟨k,css⟩:=xq;[(0,vxs),(2,.slice none 0 0),(3,.slice (some ⟨b1,0,none⟩) xs.length xs.length),(4,.int .i64 ((k : Nat) : Int))]) (fun (xq : Nat × List (List Value)) w'=>let ⟨k,css⟩:=xq;Ext w w' ∧ w1.heap.size ≤ w'.heap.size ∧ k ≤ xs.length ∧ css.length = k ∧ Blk w' b1 (Df css [.int .i64 0,.slice none 0 0,.int .i64 0,.int .i64 0,.int .i64 0,.int .i64 0] (xs.length - k)) ∧ AllO w' w1.heap.size w'.heap.size css (xs.take k)) (fun (xq : Nat × List (List Value))=>let ⟨k,css⟩:=xq;xs.length - k) (0,[]) ⟨Z,Z,Z,Z,trivial⟩ ⟨E,Nat.le_refl _,Nat.zero_le _,Z,(by simpa [Df] using h1),(by simp [AllO,All2])⟩ ?_))))))))
 clear E h1
 rintro ⟨k,css⟩ w2 ⟨E,z2,hk,hlk,h1,hA⟩
 refine Q8 [(0,vxs),(2,.slice none 0 0),(3,.slice (some ⟨b1,0,none⟩) xs.length xs.length),(4,.int .i64 ((k : Nat) : Int))] ⟨Z,Z,Z,Z,trivial⟩ ?_
 refine Qe (Qe (Qh [true,true,true,true] Z Z (Qa (Qd Z) Z (Qa (Qd Z) Z (Qa (Yc Tryz.underlying26 Z (hxs.ext E).len) Z (Qa (Yi Z Z) Z (Qc (Qt Z (fun hc1=>?_) (fun hc1=>?_)))))))))
 ·have hc1n : k < xs.length:=by first | (have h:=of_decide_eq_true hc1;omega) | (have h:=hc1;simp at h;omega)
  refine Qo (Qe (Q0 (Qh [true,true,true,true,true,true,false,true,false] Z Z (Qa (Qd Z) Z (Qa (Qd Z) Z (Qa (Qd Z) Z (Qa (Qd Z) Z ?_)))))))
  have hi1 : k < xs.length:=(by first | assumption | omega | (simp only [List.length_set];first | assumption | omega) | (simp only [List.getElem_set_self,List.length_set];first | assumption | omega) | (simp only [Yn,Yh,List.length_set];first | assumption | omega))
  obtain ⟨_,hr1,ha1⟩:=RdD.get hxs hi1
  obtain ⟨o1,rfl,hd1⟩:=Link.op hr1
  replace ha1 : At w (Y6 vxs) (Y8 vxs + k * 6) [.int .i64 ((xs[k]'hi1).cap),o1,.int .i64 ((xs[k]'hi1).credits),.int .i64 ((xs[k]'hi1).back),.int .i64 ((xs[k]'hi1).sent),.int .i64 ((xs[k]'hi1).got)]:=ha1
  refine Qa (Qz (i:=k) sl26 Z Z (hxs.ext E).1 hi1) Z (Qa (Qy st110 Z (ha1.ext E) Z) Z (Qw Tryz.call63 Z (c_toLink [.int .i64 ((xs[k]'hi1).cap),o1,.int .i64 ((xs[k]'hi1).credits),.int .i64 ((xs[k]'hi1).back),.int .i64 ((xs[k]'hi1).sent),.int .i64 ((xs[k]'hi1).got)] (xs[k]'hi1) _ (Link.mkR (xs[k]'hi1) (RdD.any (hd1.ext E))) (by have:=V3 (f:=Y5) (show k < xs.length by omega);omega)) Z (fun _ w3 e2 ho1=>?_)))
  obtain ⟨_,rfl,ho1⟩:=ho1
  have g_ho1 : w.heap.size ≤ w2.heap.size:=E.size
  replace E:=E.trans e2;replace h1:=h1.ext e2;replace hA:=hA.ext e2
  have z3:=e2.size
  obtain ⟨o2,rfl,sp1,hw1⟩:=Link.opO ho1
  refine Qa (Vj Vl Z Z (by first | assumption | omega | (simp only [List.length_set];first | assumption | omega) | (simp only [List.getElem_set_self,List.length_set];first | assumption | omega) | (simp only [Yn,Yh,List.length_set];first | assumption | omega))) Z (Q4 (cs':=Df (css ++ [[.int .i64 ((xs[k]'hi1).cap),o2,.int .i64 ((xs[k]'hi1).credits),.int .i64 ((xs[k]'hi1).back),.int .i64 ((xs[k]'hi1).sent),.int .i64 ((xs[k]'hi1).got)]]) [.int .i64 0,.slice none 0 0,.int .i64 0,.int .i64 0,.int .i64 0,.int .i64 0] (xs.length - (k + 1))) X4 Z Z Z (Qj Z (Qj hw1.one (Qj Z (Qj Z (Qj Z (Qj Z Z)))))) h1 (Ad hA.d hlk Z hc1n (by rfl)) (Bu hA.d hlk Z hc1n Z) (fun w4 m1 h1'=>?_))
  replace h1:=h1'
  replace E:=E.step m1 (fun g hg=>by cases hg;omega);replace hA:=hA.mod m1 (fun g hg=>by cases hg;omega);replace hw1:=hw1.mod m1 (fun g hg=>by cases hg;omega)
  have z4:=m1.size
  refine Qc (Q6 (Y0 (Qh [true,true,true] Z Z (Qa (Qd Z) Z (Qa (Ye Z Z (Y3 hc1n (hxs.ext E).1.1)) Z (Qa (Qf Z) Z (Qc (Q6 (Yk (k + 1,css ++ [[.int .i64 ((xs[k]'hi1).cap),o2,.int .i64 ((xs[k]'hi1).credits),.int .i64 ((xs[k]'hi1).back),.int .i64 ((xs[k]'hi1).sent),.int .i64 ((xs[k]'hi1).got)]]) (by simp;omega) ⟨Z,Z,Z,Z,trivial⟩ ⟨E,(by omega),(by omega),(by simp [hlk]),h1,(AllO.widen (AllO.step hA hc1n (Link.mkO (xs[k]'hi1) sp1 (Own.widen hw1 (by omega) (by omega))) (Nat.le_refl _) (Nat.le_refl _) (by omega) (by omega)) (Nat.le_refl _) (by omega))⟩)))))))))
 ·have hc1n : ¬ k < xs.length:=by first | (have h:=of_decide_eq_false hc1;omega) | (have h:=hc1;simp at h;omega)
  refine Yq (Q5 (Q3 ?_))
  refine Qe (Qh [true,true] Z Z (Qa (Qd Z) Z (Qa (Qf Z) Z (Qc (Qv (Qm Z Z E ?_))))))
  obtain rfl : k = xs.length:=by omega
  rw [Nat.sub_self,mkc_all] at h1
  rw [List.take_length] at hA
  exact OwS.ofBlk h1 hA (by have:=E.size;omega) (by omega) (by have:=E.size;omega) (by omega) (by omega) Z (by unfold maxLen;omega)

set_option maxRecDepth 20000 in
theorem c_eqLinkS (vxs : Value) (xs : List Link) (vys : Value) (ys : List Link) (w : World) (hxs : RdD w 0 w.heap.size vxs xs) (hys : RdD w 0 w.heap.size vys ys) : Ct Tryz.prog 32 [vxs,vys] w (fun v _=>v = .bool (decide (xs = ys))):=by
 refine Ym Tryz.func32 Z Tryz.ntmps32 Z ?_
 refine Q8 [(0,vxs),(1,vys)] ⟨Z,Z,trivial⟩ ?_
 have E : Ext w w:=Ext.refl w
 refine Qe (Qh [true] Z Z (Qa (Qf Z) Z (Qc (Qe (Qe (Qh [true,true,true,true,true] Z Z (Qa (Qd Z) Z (Qa (Yc Tryz.underlying36 Z (hxs.ext E).len) Z (Qa (Qd Z) Z (Qa (Yc Tryz.underlying36 Z (hys.ext E).len) Z (Qa (Yu Z Z) Z (Qc (Qt Z (fun hc1=>?_) (fun hc1=>?_))))))))))))))
 ·have hc1n : ¬ xs.length = ys.length:=by first | (have h:=of_decide_eq_true hc1;omega) | (have h:=hc1;simp at h;omega)
  refine Qe (Qh [true] Z Z (Qa (Qf Z) Z (Qc (Qv (Qm Z Z E ?_)))))
  simp [Hl hc1n]
 ·have hc1n : xs.length = ys.length:=by first | (have h:=of_decide_eq_false hc1;omega) | (have h:=hc1;simp at h;omega)
  refine Qo (Qe (Qe (Qh [true] Z Z (Qa (Qf Z) Z (Qc (Q0 (Yp (fun (k : Nat)=>[(0,vxs),(1,vys),(4,.bool false),(5,.int .i64 ((k : Nat) : Int))]) (fun (k : Nat) w'=>Ext w w' ∧ w.heap.size ≤ w'.heap.size ∧ k ≤ xs.length ∧ xs.take k = ys.take k) (fun (k : Nat)=>xs.length - k) 0 ⟨Z,Z,Z,Z,trivial⟩ ⟨E,Nat.le_refl _,Nat.zero_le _,Z⟩ ?_)))))))
  clear E
  rintro k w1 ⟨E,z1,hk,hp⟩
  refine Qe (Qe (Qh [true,true,true,true] Z Z (Qa (Qd Z) Z (Qa (Qd Z) Z (Qa (Yc Tryz.underlying36 Z (hxs.ext E).len) Z (Qa (Yi Z Z) Z (Qc (Qt Z (fun hc2=>?_) (fun hc2=>?_)))))))))
  ·have hc2n : k < xs.length:=by first | (have h:=of_decide_eq_true hc2;omega) | (have h:=hc2;simp at h;omega)
   refine Qo (Qe (Q0 (Qe (Xx Xs [(0,true),(1,true),(2,true),(3,true),(4,true),(5,true),(6,true),(7,true),(8,false),(9,true)] (by decide +kernel) Z (fun w2 e1=>?_)))))
   replace E:=E.trans e1
   have z2:=e1.size
   refine Qa (Qd Z) Z (Qa (Qd Z) Z ?_)
   have hi1 : k < xs.length:=(by first | assumption | omega | (simp only [List.length_set];first | assumption | omega) | (simp only [List.getElem_set_self,List.length_set];first | assumption | omega) | (simp only [Yn,Yh,List.length_set];first | assumption | omega))
   obtain ⟨_,hr1,ha1⟩:=RdD.get hxs hi1
   obtain ⟨o1,rfl,hd1⟩:=Link.op hr1
   replace ha1 : At w (Y6 vxs) (Y8 vxs + k * 6) [.int .i64 ((xs[k]'hi1).cap),o1,.int .i64 ((xs[k]'hi1).credits),.int .i64 ((xs[k]'hi1).back),.int .i64 ((xs[k]'hi1).sent),.int .i64 ((xs[k]'hi1).got)]:=ha1
   refine Qa (Qz (i:=k) Vl Z Z (hxs.ext E).1 hi1) Z (Qa (Qy X4 Z (ha1.ext E) Z) Z (Qa (Qd Z) Z (Qa (Qd Z) Z ?_)))
   have hi2 : k < ys.length:=(by first | assumption | omega | (simp only [List.length_set];first | assumption | omega) | (simp only [List.getElem_set_self,List.length_set];first | assumption | omega) | (simp only [Yn,Yh,List.length_set];first | assumption | omega))
   obtain ⟨_,hr2,ha2⟩:=RdD.get hys hi2
   obtain ⟨o2,rfl,hd2⟩:=Link.op hr2
   replace ha2 : At w (Y6 vys) (Y8 vys + k * 6) [.int .i64 ((ys[k]'hi2).cap),o2,.int .i64 ((ys[k]'hi2).credits),.int .i64 ((ys[k]'hi2).back),.int .i64 ((ys[k]'hi2).sent),.int .i64 ((ys[k]'hi2).got)]:=ha2
   refine Qa (Qz (i:=k) Vl Z Z (hys.ext E).1 hi2) Z (Qa (Qy X4 Z (ha2.ext E) Z) Z (Qw Tryz.call74 Z (c_eqLink [.int .i64 ((xs[k]'hi1).cap),o1,.int .i64 ((xs[k]'hi1).credits),.int .i64 ((xs[k]'hi1).back),.int .i64 ((xs[k]'hi1).sent),.int .i64 ((xs[k]'hi1).got)] (xs[k]'hi1) [.int .i64 ((ys[k]'hi2).cap),o2,.int .i64 ((ys[k]'hi2).credits),.int .i64 ((ys[k]'hi2).back),.int .i64 ((ys[k]'hi2).sent),.int .i64 ((ys[k]'hi2).got)] (ys[k]'hi2) _ (Link.mkR (xs[k]'hi1) (RdD.any (hd1.ext E))) (Link.mkR (ys[k]'hi2) (RdD.any (hd2.ext E)))) Z (fun _ w3 e2 hv=>?_)))
   subst hv
   replace E:=E.trans e2
   have z3:=e2.size
   refine Qa (Yy Z) Z (Qc (Qt Z (fun hc3=>?_) (fun hc3=>?_)))
   ·refine Qe (Qh [true] Z Z (Qa (Qf Z) Z (Qc (Qv (Q2 (Yv (Q2 (Qm Z Z E ?_))))))))
    exact Hm (by omega) (by omega) (by simpa using hc3)
   ·refine Qo (Q6 (Y0 (Qh [true,true,true] Z Z (Qa (Qd Z) Z (Qa (Ye Z Z (Y3 hc2n (hxs.ext E).1.1)) Z (Qa (Qf Z) Z (Qc (Q6 (Yk (k + 1) (by omega) ⟨Z,Z,Z,Z,trivial⟩ ⟨E,(by omega),(by omega),Vi hp (by assumption) (by omega) (by simpa using hc3)⟩)))))))))
  ·have hc2n : ¬ k < xs.length:=by first | (have h:=of_decide_eq_false hc2;omega) | (have h:=hc2;simp at h;omega)
   refine Yq (Q5 (Q3 ?_))
   refine Qe (Qh [true] Z Z (Qa (Qf Z) Z (Qc (Qv (Qm Z Z E ?_)))))
   exact Gc hp hc1n (by omega)

set_option maxRecDepth 20000 in
theorem c_szWorkerS (vxs : Value) (xs : List Worker) (n : Int) (w : World) (hxs : RdD w 0 w.heap.size vxs xs) (h0 : 0 ≤ n ∧ n ≤ 1048576) : Ct Tryz.prog 15 [vxs,.int .i64 n] w (fun v _=>v = .int .i64 (Uk (X0 Q7 xs) n)):=by
 have hlm:=hxs.1.1
 unfold maxLen at hlm
 refine Ym Tryz.func15 Z Tryz.ntmps15 Z ?_
 refine Q8 [(0,vxs),(1,.int .i64 n)] ⟨Z,Z,trivial⟩ ?_
 have E : Ext w w:=Ext.refl w
 refine Qe (Qh [true] Z Z (Qa (Qf Z) Z (Qc (Qe (Qh [true,true,true,true,true] Z Z (Qa (Qd Z) Z (Qa (Qd Z) Z (Qa (Yc Tryz.underlying25 Z (hxs.ext E).len) Z (Qa (K6 Z Z (Ki (by omega) (by omega))) Z (Qa (Qf Z) Z (Qc (Qe (Qe (Qh [true,true] Z Z (Qa (Qd Z) Z (Qa (Yi Z Z) Z (Qc (Qt Z (fun hc1=>?_) (fun hc1=>?_)))))))))))))))))))
 ·refine Qe (Qh [true] Z Z (Qa (Qf Z) Z (Qc (Qv (Qm Z Z E ?_)))))
  exact Kd (by have:=of_decide_eq_true hc1;unfold X0;omega)
 ·refine Qo (Qe (Qe (Qh [true] Z Z (Qa (Qf Z) Z (Qc (Q0 (Yp (fun (xq : Nat × Int)=>let ⟨k,l⟩:=xq;[(0,vxs),(1,.int .i64 l),(4,.int .i64 0),(5,.int .i64 ((k : Nat) : Int))]) (fun (xq : Nat × Int) w'=>let ⟨k,l⟩:=xq;Ext w w' ∧ w.heap.size ≤ w'.heap.size ∧ k ≤ xs.length ∧ 0 ≤ l ∧ l ≤ 1048576 ∧ l = n - ((xs.length : Nat) : Int) - ((((xs.take k).map Q7).sum : Nat) : Int)) (fun (xq : Nat × Int)=>let ⟨k,l⟩:=xq;xs.length - k) (0,n - ((xs.length : Nat) : Int)) ⟨Z,Z,Z,Z,trivial⟩ ⟨E,Nat.le_refl _,Nat.zero_le _,(by have:=of_decide_eq_false hc1;simp;omega)⟩ ?_)))))))
  clear E
  rintro ⟨k,l⟩ w1 ⟨E,z1,hk,hl⟩
  refine Q8 [(0,vxs),(1,.int .i64 l),(4,.int .i64 0),(5,.int .i64 ((k : Nat) : Int))] ⟨Z,Z,Z,Z,trivial⟩ ?_
  refine Qe (Qe (Qh [true,true,true,true] Z Z (Qa (Qd Z) Z (Qa (Qd Z) Z (Qa (Yc Tryz.underlying25 Z (hxs.ext E).len) Z (Qa (Yi Z Z) Z (Qc (Qt Z (fun hc2=>?_) (fun hc2=>?_)))))))))
  ·have hc2n : k < xs.length:=by first | (have h:=of_decide_eq_true hc2;omega) | (have h:=hc2;simp at h;omega)
   refine Qo (Qe (Q0 (Qe (Qh [true,true,true,true,true,false,true] Z Z (Qa (Qd Z) Z (Qa (Qd Z) Z ?_))))))
   have hi1 : k < xs.length:=(by first | assumption | omega | (simp only [List.length_set];first | assumption | omega) | (simp only [List.getElem_set_self,List.length_set];first | assumption | omega) | (simp only [Yn,Yh,List.length_set];first | assumption | omega))
   obtain ⟨_,hr1,ha1⟩:=RdD.get hxs hi1
   obtain ⟨o1,o2,o3,o4,o5,o6,o7,o8,rfl,hd1,hd2,hd3,hd4,hd5,hd6,hd7,hd8⟩:=Worker.op hr1
   replace ha1 : At w (Y6 vxs) (Y8 vxs + k * 8) [o1,o2,o3,o4,o5,o6,o7,o8]:=ha1
   refine Qa (Qz (i:=k) sl25 Z Z (hxs.ext E).1 hi1) Z (Qa (Qy st107 Z (ha1.ext E) Z) Z (Qa (Qd Z) Z (Qw Tryz.call54 Z (c_szWorker [o1,o2,o3,o4,o5,o6,o7,o8] (xs[k]'hi1) l _ (Worker.mkR (xs[k]'hi1) (RdD.any (hd1.ext E)) (RdD.any (hd2.ext E)) (RdD.any (hd3.ext E)) (RdD.any (hd4.ext E)) (RdD.any (hd5.ext E)) (RdD.any (hd6.ext E)) (RdD.any (hd7.ext E)) (RdD.any (hd8.ext E))) (by first | omega | (simp only [Qi];omega) | (rw [Qi];done) | (simp only [Qi];done))) Z (fun _ w2 e1 hv=>?_))))
   subst hv
   replace E:=E.trans e1
   have z2:=e1.size
   refine Qa (Qf Z) Z (Qc (Qe (Qh [true,true] Z Z (Qa (Qd Z) Z (Qa (Yi Z Z) Z (Qc (Qt Z (fun hc3=>?_) (fun hc3=>?_))))))))
   ·have q1:=Uj hc3 (by omega)
    refine Qe (Qh [true] Z Z (Qa (Qf Z) Z (Qc (Qv (Q2 (Yv (Q2 (Qm Z Z E ?_))))))))
    exact Kd (by have:=V3 (f:=Q7) (show k < xs.length by omega);unfold X0;omega)
   ·have q2:=Ui hc3 (by omega)
    refine Qo (Q6 (Y0 (Qh [true,true,true] Z Z (Qa (Qd Z) Z (Qa (Ye Z Z (Y3 hc2n (hxs.ext E).1.1)) Z (Qa (Qf Z) Z (Qc (Q6 (Yk (k + 1,Uk (Q7 (xs[k]'hi1)) l) (by simp;omega) ⟨Z,Z,Z,Z,trivial⟩ ⟨E,(by omega),(by omega),(by have:=Bk (f:=Q7) (show k < xs.length by omega);omega)⟩)))))))))
  ·have hc2n : ¬ k < xs.length:=by first | (have h:=of_decide_eq_false hc2;omega) | (have h:=hc2;simp at h;omega)
   refine Yq (Q5 (Q3 ?_))
   refine Qe (Qh [true,true] Z Z (Qa (Qd Z) Z (Qa (Qf Z) Z (Qc (Qv (Qm Z Z E ?_))))))
   have:=sum_all (f:=Q7) (show xs.length ≤ k by omega);exact Ks (by unfold X0;omega) (by unfold X0;omega)

set_option maxRecDepth 20000 in
theorem c_toWorkerS (vxs : Value) (xs : List Worker) (w : World) (hxs : RdD w 0 w.heap.size vxs xs) (hb : X0 Q7 xs ≤ 1048576) : Ct Tryz.prog 22 [vxs] w (fun v w'=>OwS (α:=Worker) w' w.heap.size w'.heap.size v xs):=by
 unfold X0 at hb
 refine Ym Tryz.func22 Z Tryz.ntmps22 Z ?_
 refine Q8 [(0,vxs)] ⟨Z,trivial⟩ ?_
 have E : Ext w w:=Ext.refl w
 refine Qe (Qh [true] Z Z (Qa (Qf Z) Z (Qc (Qe (Qh [true,true,false,true] Z Z (Qa (Qd Z) Z (Qa (Yc Tryz.underlying25 Z (hxs.ext E).len) Z (Hp (m:=xs.length) K5 Z Z (by omega) (by decide) Z (fun b1 w1 e1 s1 h1=>?_)))))))))
 have g_b1 : w.heap.size ≤ b1:=by have:=E.size;omega
 have y_b1:=h1.lt
 replace E:=E.trans e1
 have z1:=e1.size
 refine Qa (Qf Z) Z (Qc (Qe (Qe (Qh [true] Z Z (Qa (Qf Z) Z (Qc (Q0 (Yp (fun (xq : Nat × List (List Value))=>let ⟨k,css⟩:=xq;[(0,vxs),(2,.slice none 0 0),(3,.slice (some ⟨b1,0,none⟩) xs.length xs.length),(4,.int .i64 ((k : Nat) : Int))]) (fun (xq : Nat × List (List Value)) w'=>let ⟨k,css⟩:=xq;Ext w w' ∧ w1.heap.size ≤ w'.heap.size ∧ k ≤ xs.length ∧ css.length = k ∧ Blk w' b1 (Df css [.slice none 0 0,.slice none 0 0,.slice none 0 0,.slice none 0 0,.slice none 0 0,.slice none 0 0,.slice none 0 0,.slice none 0 0] (xs.length - k)) ∧ AllO w' w1.heap.size w'.heap.size css (xs.take k)) (fun (xq : Nat × List (List Value))=>let ⟨k,css⟩:=xq;xs.length - k) (0,[]) ⟨Z,Z,Z,Z,trivial⟩ ⟨E,Nat.le_refl _,Nat.zero_le _,Z,(by simpa [Df] using h1),(by simp [AllO,All2])⟩ ?_))))))))
 clear E h1
 rintro ⟨k,css⟩ w2 ⟨E,z2,hk,hlk,h1,hA⟩
 refine Q8 [(0,vxs),(2,.slice none 0 0),(3,.slice (some ⟨b1,0,none⟩) xs.length xs.length),(4,.int .i64 ((k : Nat) : Int))] ⟨Z,Z,Z,Z,trivial⟩ ?_
 refine Qe (Qe (Qh [true,true,true,true] Z Z (Qa (Qd Z) Z (Qa (Qd Z) Z (Qa (Yc Tryz.underlying25 Z (hxs.ext E).len) Z (Qa (Yi Z Z) Z (Qc (Qt Z (fun hc1=>?_) (fun hc1=>?_)))))))))
 ·have hc1n : k < xs.length:=by first | (have h:=of_decide_eq_true hc1;omega) | (have h:=hc1;simp at h;omega)
  refine Qo (Qe (Q0 (Qh [true,true,true,true,true,true,false,true,false] Z Z (Qa (Qd Z) Z (Qa (Qd Z) Z (Qa (Qd Z) Z (Qa (Qd Z) Z ?_)))))))
  have hi1 : k < xs.length:=(by first | assumption | omega | (simp only [List.length_set];first | assumption | omega) | (simp only [List.getElem_set_self,List.length_set];first | assumption | omega) | (simp only [Yn,Yh,List.length_set];first | assumption | omega))
  obtain ⟨_,hr1,ha1⟩:=RdD.get hxs hi1
  obtain ⟨o1,o2,o3,o4,o5,o6,o7,o8,rfl,hd1,hd2,hd3,hd4,hd5,hd6,hd7,hd8⟩:=Worker.op hr1
  replace ha1 : At w (Y6 vxs) (Y8 vxs + k * 8) [o1,o2,o3,o4,o5,o6,o7,o8]:=ha1
  refine Qa (Qz (i:=k) sl25 Z Z (hxs.ext E).1 hi1) Z (Qa (Qy st107 Z (ha1.ext E) Z) Z (Qw Tryz.call62 Z (c_toWorker [o1,o2,o3,o4,o5,o6,o7,o8] (xs[k]'hi1) _ (Worker.mkR (xs[k]'hi1) (RdD.any (hd1.ext E)) (RdD.any (hd2.ext E)) (RdD.any (hd3.ext E)) (RdD.any (hd4.ext E)) (RdD.any (hd5.ext E)) (RdD.any (hd6.ext E)) (RdD.any (hd7.ext E)) (RdD.any (hd8.ext E))) (by have:=V3 (f:=Q7) (show k < xs.length by omega);omega)) Z (fun _ w3 e2 ho1=>?_)))
  obtain ⟨_,rfl,ho1⟩:=ho1
  have g_ho1 : w.heap.size ≤ w2.heap.size:=E.size
  replace E:=E.trans e2;replace h1:=h1.ext e2;replace hA:=hA.ext e2
  have z3:=e2.size
  obtain ⟨o9,o10,o11,o12,o13,o14,o15,o16,rfl,sp1,hw1,hw2,hw3,hw4,hw5,hw6,hw7,hw8⟩:=Worker.opO ho1
  refine Qa (Vj K5 Z Z (by first | assumption | omega | (simp only [List.length_set];first | assumption | omega) | (simp only [List.getElem_set_self,List.length_set];first | assumption | omega) | (simp only [Yn,Yh,List.length_set];first | assumption | omega))) Z (Q4 (cs':=Df (css ++ [[o9,o10,o11,o12,o13,o14,o15,o16]]) [.slice none 0 0,.slice none 0 0,.slice none 0 0,.slice none 0 0,.slice none 0 0,.slice none 0 0,.slice none 0 0,.slice none 0 0] (xs.length - (k + 1))) X8 Z Z Z (Qj hw1.one (Qj hw2.one (Qj hw3.one (Qj hw4.one (Qj hw5.one (Qj hw6.one (Qj hw7.one (Qj hw8.one Z)))))))) h1 (Ad hA.d hlk Z hc1n (by rfl)) (Bu hA.d hlk Z hc1n Z) (fun w4 m1 h1'=>?_))
  replace h1:=h1'
  replace E:=E.step m1 (fun g hg=>by cases hg;omega);replace hA:=hA.mod m1 (fun g hg=>by cases hg;omega);replace hw1:=hw1.mod m1 (fun g hg=>by cases hg;omega);replace hw2:=hw2.mod m1 (fun g hg=>by cases hg;omega);replace hw3:=hw3.mod m1 (fun g hg=>by cases hg;omega);replace hw4:=hw4.mod m1 (fun g hg=>by cases hg;omega);replace hw5:=hw5.mod m1 (fun g hg=>by cases hg;omega);replace hw6:=hw6.mod m1 (fun g hg=>by cases hg;omega);replace hw7:=hw7.mod m1 (fun g hg=>by cases hg;omega);replace hw8:=hw8.mod m1 (fun g hg=>by cases hg;omega)
  have z4:=m1.size
  refine Qc (Q6 (Y0 (Qh [true,true,true] Z Z (Qa (Qd Z) Z (Qa (Ye Z Z (Y3 hc1n (hxs.ext E).1.1)) Z (Qa (Qf Z) Z (Qc (Q6 (Yk (k + 1,css ++ [[o9,o10,o11,o12,o13,o14,o15,o16]]) (by simp;omega) ⟨Z,Z,Z,Z,trivial⟩ ⟨E,(by omega),(by omega),(by simp [hlk]),h1,(AllO.widen (AllO.step hA hc1n (Worker.mkO (xs[k]'hi1) sp1 (Own.widen hw1 (by omega) (by omega)) (Own.widen hw2 (by omega) (by omega)) (Own.widen hw3 (by omega) (by omega)) (Own.widen hw4 (by omega) (by omega)) (Own.widen hw5 (by omega) (by omega)) (Own.widen hw6 (by omega) (by omega)) (Own.widen hw7 (by omega) (by omega)) (Own.widen hw8 (by omega) (by omega))) (Nat.le_refl _) (Nat.le_refl _) (by omega) (by omega)) (Nat.le_refl _) (by omega))⟩)))))))))
 ·have hc1n : ¬ k < xs.length:=by first | (have h:=of_decide_eq_false hc1;omega) | (have h:=hc1;simp at h;omega)
  refine Yq (Q5 (Q3 ?_))
  refine Qe (Qh [true,true] Z Z (Qa (Qd Z) Z (Qa (Qf Z) Z (Qc (Qv (Qm Z Z E ?_))))))
  obtain rfl : k = xs.length:=by omega
  rw [Nat.sub_self,mkc_all] at h1
  rw [List.take_length] at hA
  exact OwS.ofBlk h1 hA (by have:=E.size;omega) (by omega) (by have:=E.size;omega) (by omega) (by omega) Z (by unfold maxLen;omega)

set_option maxRecDepth 20000 in
theorem c_eqWorkerS (vxs : Value) (xs : List Worker) (vys : Value) (ys : List Worker) (w : World) (hxs : RdD w 0 w.heap.size vxs xs) (hys : RdD w 0 w.heap.size vys ys) : Ct Tryz.prog 31 [vxs,vys] w (fun v _=>v = .bool (decide (xs = ys))):=by
 refine Ym Tryz.func31 Z Tryz.ntmps31 Z ?_
 refine Q8 [(0,vxs),(1,vys)] ⟨Z,Z,trivial⟩ ?_
 have E : Ext w w:=Ext.refl w
 refine Qe (Qh [true] Z Z (Qa (Qf Z) Z (Qc (Qe (Qe (Qh [true,true,true,true,true] Z Z (Qa (Qd Z) Z (Qa (Yc Tryz.underlying35 Z (hxs.ext E).len) Z (Qa (Qd Z) Z (Qa (Yc Tryz.underlying35 Z (hys.ext E).len) Z (Qa (Yu Z Z) Z (Qc (Qt Z (fun hc1=>?_) (fun hc1=>?_))))))))))))))
 ·have hc1n : ¬ xs.length = ys.length:=by first | (have h:=of_decide_eq_true hc1;omega) | (have h:=hc1;simp at h;omega)
  refine Qe (Qh [true] Z Z (Qa (Qf Z) Z (Qc (Qv (Qm Z Z E ?_)))))
  simp [Hl hc1n]
 ·have hc1n : xs.length = ys.length:=by first | (have h:=of_decide_eq_false hc1;omega) | (have h:=hc1;simp at h;omega)
  refine Qo (Qe (Qe (Qh [true] Z Z (Qa (Qf Z) Z (Qc (Q0 (Yp (fun (k : Nat)=>[(0,vxs),(1,vys),(4,.bool false),(5,.int .i64 ((k : Nat) : Int))]) (fun (k : Nat) w'=>Ext w w' ∧ w.heap.size ≤ w'.heap.size ∧ k ≤ xs.length ∧ xs.take k = ys.take k) (fun (k : Nat)=>xs.length - k) 0 ⟨Z,Z,Z,Z,trivial⟩ ⟨E,Nat.le_refl _,Nat.zero_le _,Z⟩ ?_)))))))
  clear E
  rintro k w1 ⟨E,z1,hk,hp⟩
  refine Qe (Qe (Qh [true,true,true,true] Z Z (Qa (Qd Z) Z (Qa (Qd Z) Z (Qa (Yc Tryz.underlying35 Z (hxs.ext E).len) Z (Qa (Yi Z Z) Z (Qc (Qt Z (fun hc2=>?_) (fun hc2=>?_)))))))))
  ·have hc2n : k < xs.length:=by first | (have h:=of_decide_eq_true hc2;omega) | (have h:=hc2;simp at h;omega)
   refine Qo (Qe (Q0 (Qe (Xx Xs [(0,true),(1,true),(2,true),(3,true),(4,true),(5,true),(6,true),(7,true),(8,false),(9,true)] (by decide +kernel) Z (fun w2 e1=>?_)))))
   replace E:=E.trans e1
   have z2:=e1.size
   refine Qa (Qd Z) Z (Qa (Qd Z) Z ?_)
   have hi1 : k < xs.length:=(by first | assumption | omega | (simp only [List.length_set];first | assumption | omega) | (simp only [List.getElem_set_self,List.length_set];first | assumption | omega) | (simp only [Yn,Yh,List.length_set];first | assumption | omega))
   obtain ⟨_,hr1,ha1⟩:=RdD.get hxs hi1
   obtain ⟨o1,o2,o3,o4,o5,o6,o7,o8,rfl,hd1,hd2,hd3,hd4,hd5,hd6,hd7,hd8⟩:=Worker.op hr1
   replace ha1 : At w (Y6 vxs) (Y8 vxs + k * 8) [o1,o2,o3,o4,o5,o6,o7,o8]:=ha1
   refine Qa (Qz (i:=k) K5 Z Z (hxs.ext E).1 hi1) Z (Qa (Qy X8 Z (ha1.ext E) Z) Z (Qa (Qd Z) Z (Qa (Qd Z) Z ?_)))
   have hi2 : k < ys.length:=(by first | assumption | omega | (simp only [List.length_set];first | assumption | omega) | (simp only [List.getElem_set_self,List.length_set];first | assumption | omega) | (simp only [Yn,Yh,List.length_set];first | assumption | omega))
   obtain ⟨_,hr2,ha2⟩:=RdD.get hys hi2
   obtain ⟨o9,o10,o11,o12,o13,o14,o15,o16,rfl,hd9,hd10,hd11,hd12,hd13,hd14,hd15,hd16⟩:=Worker.op hr2
   replace ha2 : At w (Y6 vys) (Y8 vys + k * 8) [o9,o10,o11,o12,o13,o14,o15,o16]:=ha2
   refine Qa (Qz (i:=k) K5 Z Z (hys.ext E).1 hi2) Z (Qa (Qy X8 Z (ha2.ext E) Z) Z (Qw Tryz.call73 Z (c_eqWorker [o1,o2,o3,o4,o5,o6,o7,o8] (xs[k]'hi1) [o9,o10,o11,o12,o13,o14,o15,o16] (ys[k]'hi2) _ (Worker.mkR (xs[k]'hi1) (RdD.any (hd1.ext E)) (RdD.any (hd2.ext E)) (RdD.any (hd3.ext E)) (RdD.any (hd4.ext E)) (RdD.any (hd5.ext E)) (RdD.any (hd6.ext E)) (RdD.any (hd7.ext E)) (RdD.any (hd8.ext E))) (Worker.mkR (ys[k]'hi2) (RdD.any (hd9.ext E)) (RdD.any (hd10.ext E)) (RdD.any (hd11.ext E)) (RdD.any (hd12.ext E)) (RdD.any (hd13.ext E)) (RdD.any (hd14.ext E)) (RdD.any (hd15.ext E)) (RdD.any (hd16.ext E)))) Z (fun _ w3 e2 hv=>?_)))
   subst hv
   replace E:=E.trans e2
   have z3:=e2.size
   refine Qa (Yy Z) Z (Qc (Qt Z (fun hc3=>?_) (fun hc3=>?_)))
   ·refine Qe (Qh [true] Z Z (Qa (Qf Z) Z (Qc (Qv (Q2 (Yv (Q2 (Qm Z Z E ?_))))))))
    exact Hm (by omega) (by omega) (by simpa using hc3)
   ·refine Qo (Q6 (Y0 (Qh [true,true,true] Z Z (Qa (Qd Z) Z (Qa (Ye Z Z (Y3 hc2n (hxs.ext E).1.1)) Z (Qa (Qf Z) Z (Qc (Q6 (Yk (k + 1) (by omega) ⟨Z,Z,Z,Z,trivial⟩ ⟨E,(by omega),(by omega),Vi hp (by assumption) (by omega) (by simpa using hc3)⟩)))))))))
  ·have hc2n : ¬ k < xs.length:=by first | (have h:=of_decide_eq_false hc2;omega) | (have h:=hc2;simp at h;omega)
   refine Yq (Q5 (Q3 ?_))
   refine Qe (Qh [true] Z Z (Qa (Qf Z) Z (Qc (Qv (Qm Z Z E ?_)))))
   exact Gc hp hc1n (by omega)

set_option maxHeartbeats 4000000 in
set_option maxRecDepth 20000 in
theorem c_szCluster (cx : List Value) (x : Cluster) (n : Int) (w : World) (hx : Dat.R w 0 w.heap.size cx x) (h0 : 0 ≤ n ∧ n ≤ 1048576) : Ct Tryz.prog 5 [.agg cx.toArray,.int .i64 n] w (fun v _=>v = .int .i64 (Uk (Yb x) n)):=by
 refine Ym Tryz.func5 Z Tryz.ntmps5 Z ?_
 obtain ⟨o1,o2,o3,o4,o5,rfl,hd1,hd2,hd3,hd4,hd5⟩:=Cluster.op hx
 refine Q8 [(0,.agg [o1,.int .i64 x.graph.workers,.int .i64 x.graph.cap,o2,o3,o4,o5].toArray),(1,.int .i64 n)] ⟨Z,Z,trivial⟩ ?_
 have E : Ext w w:=Ext.refl w
 refine Qe (Qh [false,true] Z Z (Y1 Z Z (fun b1 w1 e1 s1 h1=>?_)))
 have g_b1 : w.heap.size ≤ b1:=by have:=E.size;omega
 have y_b1:=h1.lt
 replace E:=E.trans e1
 have z1:=e1.size
 refine Qa (Qf Z) Z (Qc (Qe (Qh [true,true,true,false,true] Z Z (Qa (Qb fl30_0 Z) Z (Qa (Qy st24 Z (h1.part 0 [o1,.int .i64 x.graph.workers,.int .i64 x.graph.cap] Z) Z) Z (Qa (Qd Z) Z (Qw Tryz.call14 Z (c_szGraph [o1,.int .i64 x.graph.workers,.int .i64 x.graph.cap] x.graph n _ (Graph.mkR x.graph (RdD.any (hd1.ext E))) (by first | omega | (simp only [Qi];omega) | (rw [Qi];done) | (simp only [Qi];done))) Z (fun _ w2 e2 hv=>?_))))))))
 subst hv
 replace E:=E.trans e2;replace h1:=h1.ext e2
 have z2:=e2.size
 refine Qa (Qf Z) Z (Qc (Qe (Qe (Qh [true,true] Z Z (Qa (Qd Z) Z (Qa (Yi Z Z) Z (Qc (Qt Z (fun hc1=>?_) (fun hc1=>?_)))))))))
 ·have q1:=Uj hc1 (by omega)
  refine Qe (Qh [true] Z Z (Qa (Qf Z) Z (Qc (Qv (Qm Z Z E ?_)))))
  first | exact Kd (by unfold Yb;omega) | exact Ks (by unfold Yb;omega) (by unfold Yb;omega)
 ·have q2:=Ui hc1 (by omega)
  refine Qo (Qe (Qh [true,true,true,false,true] Z Z (Qa (Qb fl30_1 Z) Z (Qa (Qk sc25 Z (h1.one 3 Z)) Z (Qa (Qd Z) Z (Qw Tryz.call15 Z (c_szWorkerS o2 x.workers (Uk (Xe x.graph) n) _ (RdD.any (hd2.ext E)) (by first | omega | (simp only [Qi];omega) | (rw [Qi];done) | (simp only [Qi];done))) Z (fun _ w3 e3 hv=>?_)))))))
  subst hv
  replace E:=E.trans e3;replace h1:=h1.ext e3
  have z3:=e3.size
  refine Qa (Qf Z) Z (Qc (Qe (Qe (Qh [true,true] Z Z (Qa (Qd Z) Z (Qa (Yi Z Z) Z (Qc (Qt Z (fun hc2=>?_) (fun hc2=>?_)))))))))
  ·have q3:=Uj hc2 (by omega)
   refine Qe (Qh [true] Z Z (Qa (Qf Z) Z (Qc (Qv (Qm Z Z E ?_)))))
   first | exact Kd (by unfold Yb;omega) | exact Ks (by unfold Yb;omega) (by unfold Yb;omega)
  ·have q4:=Ui hc2 (by omega)
   refine Qo (Qe (Qh [true,true,true,false,true] Z Z (Qa (Qb fl30_2 Z) Z (Qa (Qk sc26 Z (h1.one 4 Z)) Z (Qa (Qd Z) Z (Qw Tryz.call16 Z (c_szLinkS o3 x.links (Uk (X0 Q7 x.workers) (Uk (Xe x.graph) n)) _ (RdD.any (hd3.ext E)) (by first | omega | (simp only [Qi];omega) | (rw [Qi];done) | (simp only [Qi];done))) Z (fun _ w4 e4 hv=>?_)))))))
   subst hv
   replace E:=E.trans e4;replace h1:=h1.ext e4
   have z4:=e4.size
   refine Qa (Qf Z) Z (Qc (Qe (Qe (Qh [true,true] Z Z (Qa (Qd Z) Z (Qa (Yi Z Z) Z (Qc (Qt Z (fun hc3=>?_) (fun hc3=>?_)))))))))
   ·have q5:=Uj hc3 (by omega)
    refine Qe (Qh [true] Z Z (Qa (Qf Z) Z (Qc (Qv (Qm Z Z E ?_)))))
    first | exact Kd (by unfold Yb;omega) | exact Ks (by unfold Yb;omega) (by unfold Yb;omega)
   ·have q6:=Ui hc3 (by omega)
    refine Qo (Qe (Qh [true,true,true,false,true] Z Z (Qa (Qb fl30_3 Z) Z (Qa (Qk sc27 Z (h1.one 5 Z)) Z (Qa (Qd Z) Z (Qw Tryz.call17 Z (c_szTokenS o4 x.tokens (Uk (X0 Y5 x.links) (Uk (X0 Q7 x.workers) (Uk (Xe x.graph) n))) _ (hd4.rd.ext E) (by first | omega | (simp only [Qi];omega) | (rw [Qi];done) | (simp only [Qi];done))) Z (fun _ w5 e5 hv=>?_)))))))
    subst hv
    replace E:=E.trans e5;replace h1:=h1.ext e5
    have z5:=e5.size
    refine Qa (Qf Z) Z (Qc (Qe (Qe (Qh [true,true] Z Z (Qa (Qd Z) Z (Qa (Yi Z Z) Z (Qc (Qt Z (fun hc4=>?_) (fun hc4=>?_)))))))))
    ·have q7:=Uj hc4 (by omega)
     refine Qe (Qh [true] Z Z (Qa (Qf Z) Z (Qc (Qv (Qm Z Z E ?_)))))
     first | exact Kd (by unfold Yb;omega) | exact Ks (by unfold Yb;omega) (by unfold Yb;omega)
    ·have q8:=Ui hc4 (by omega)
     refine Qo (Qe (Qh [true,true,true,false,true] Z Z (Qa (Qb fl30_4 Z) Z (Qa (Qk sc28 Z (h1.one 6 Z)) Z (Qa (Qd Z) Z (Qw Tryz.call18 Z (c_szNewsS o5 x.news (Uk x.tokens.length (Uk (X0 Y5 x.links) (Uk (X0 Q7 x.workers) (Uk (Xe x.graph) n)))) _ (hd5.rd.ext E) (by first | omega | (simp only [Qi];omega) | (rw [Qi];done) | (simp only [Qi];done))) Z (fun _ w6 e6 hv=>?_)))))))
     subst hv
     replace E:=E.trans e6;replace h1:=h1.ext e6
     have z6:=e6.size
     refine Qa (Qf Z) Z (Qc (Qe (Qe (Qh [true,true] Z Z (Qa (Qd Z) Z (Qa (Yi Z Z) Z (Qc (Qt Z (fun hc5=>?_) (fun hc5=>?_)))))))))
     ·have q9:=Uj hc5 (by omega)
      refine Qe (Qh [true] Z Z (Qa (Qf Z) Z (Qc (Qv (Qm Z Z E ?_)))))
      first | exact Kd (by unfold Yb;omega) | exact Ks (by unfold Yb;omega) (by unfold Yb;omega)
     ·have q10:=Ui hc5 (by omega)
      refine Qo (Qe (Qh [true,true] Z Z (Qa (Qd Z) Z (Qa (Qf Z) Z (Qc (Qv (Qm Z Z E ?_)))))))
      first | exact Kd (by unfold Yb;omega) | exact Ks (by unfold Yb;omega) (by unfold Yb;omega)

set_option maxRecDepth 20000 in
theorem c_eqCluster (cx : List Value) (x : Cluster) (cy : List Value) (y : Cluster) (w : World) (hx : Dat.R w 0 w.heap.size cx x) (hy : Dat.R w 0 w.heap.size cy y) : Ct Tryz.prog 9 [.agg cx.toArray,.agg cy.toArray] w (fun v _=>v = .bool (decide (x = y))):=by
 refine Ym Tryz.func9 Z Tryz.ntmps9 Z ?_
 obtain ⟨o1,o2,o3,o4,o5,rfl,hd1,hd2,hd3,hd4,hd5⟩:=Cluster.op hx
 obtain ⟨o6,o7,o8,o9,o10,rfl,hd6,hd7,hd8,hd9,hd10⟩:=Cluster.op hy
 refine Q8 [(0,.agg [o1,.int .i64 x.graph.workers,.int .i64 x.graph.cap,o2,o3,o4,o5].toArray),(1,.agg [o6,.int .i64 y.graph.workers,.int .i64 y.graph.cap,o7,o8,o9,o10].toArray)] ⟨Z,Z,trivial⟩ ?_
 have E : Ext w w:=Ext.refl w
 refine Qe (Qh [false,false,true] Z Z (Y1 Z Z (fun b1 w1 e1 s1 h1=>?_)))
 have g_b1 : w.heap.size ≤ b1:=by have:=E.size;omega
 have y_b1:=h1.lt
 replace E:=E.trans e1
 have z1:=e1.size
 refine Y1 Z Z (fun b2 w2 e2 s2 h2=>?_)
 have g_b2 : w.heap.size ≤ b2:=by have:=E.size;omega
 have y_b2:=h2.lt
 replace E:=E.trans e2;replace h1:=h1.ext e2
 have z2:=e2.size
 refine Qa (Qf Z) Z (Qc (Qe (Qe (Qh [true,true,true,true,false,true] Z Z (Qa (Qb Ue Z) Z (Qa (Qy Uq Z (h1.part 0 [o1,.int .i64 x.graph.workers,.int .i64 x.graph.cap] Z) Z) Z (Qa (Qb Ue Z) Z (Qa (Qy Uq Z (h2.part 0 [o6,.int .i64 y.graph.workers,.int .i64 y.graph.cap] Z) Z) Z (Qw Tryz.call30 Z (c_eqGraph [o1,.int .i64 x.graph.workers,.int .i64 x.graph.cap] x.graph [o6,.int .i64 y.graph.workers,.int .i64 y.graph.cap] y.graph _ (Graph.mkR x.graph (RdD.any (hd1.ext E))) (Graph.mkR y.graph (RdD.any (hd6.ext E)))) Z (fun _ w3 e3 hv=>?_))))))))))
 subst hv
 replace E:=E.trans e3;replace h1:=h1.ext e3;replace h2:=h2.ext e3
 have z3:=e3.size
 refine Qa (Yy Z) Z (Qc (Qt Z (fun hc1=>?_) (fun hc1=>?_)))
 ·refine Qe (Qh [true] Z Z (Qa (Qf Z) Z (Qc (Qv (Qm Z Z E ?_)))))
  cases x;cases y;simp_all
 ·refine Qo (Qe (Qe (Qh [true,true,true,true,false,true] Z Z (Qa (Qb Xn Z) Z (Qa (Qk Uy Z (h1.one 3 Z)) Z (Qa (Qb Xn Z) Z (Qa (Qk Uy Z (h2.one 3 Z)) Z (Qw Tryz.call31 Z (c_eqWorkerS o2 x.workers o7 y.workers _ (RdD.any (hd2.ext E)) (RdD.any (hd7.ext E))) Z (fun _ w4 e4 hv=>?_)))))))))
  subst hv
  replace E:=E.trans e4;replace h1:=h1.ext e4;replace h2:=h2.ext e4
  have z4:=e4.size
  refine Qa (Yy Z) Z (Qc (Qt Z (fun hc2=>?_) (fun hc2=>?_)))
  ·refine Qe (Qh [true] Z Z (Qa (Qf Z) Z (Qc (Qv (Qm Z Z E ?_)))))
   cases x;cases y;simp_all
  ·refine Qo (Qe (Qe (Qh [true,true,true,true,false,true] Z Z (Qa (Qb Ko Z) Z (Qa (Qk Gh Z (h1.one 4 Z)) Z (Qa (Qb Ko Z) Z (Qa (Qk Gh Z (h2.one 4 Z)) Z (Qw Tryz.call32 Z (c_eqLinkS o3 x.links o8 y.links _ (RdD.any (hd3.ext E)) (RdD.any (hd8.ext E))) Z (fun _ w5 e5 hv=>?_)))))))))
   subst hv
   replace E:=E.trans e5;replace h1:=h1.ext e5;replace h2:=h2.ext e5
   have z5:=e5.size
   refine Qa (Yy Z) Z (Qc (Qt Z (fun hc3=>?_) (fun hc3=>?_)))
   ·refine Qe (Qh [true] Z Z (Qa (Qf Z) Z (Qc (Qv (Qm Z Z E ?_)))))
    cases x;cases y;simp_all
   ·refine Qo (Qe (Qe (Qh [true,true,true,true,false,true] Z Z (Qa (Qb Ve Z) Z (Qa (Qk Co Z (h1.one 5 Z)) Z (Qa (Qb Ve Z) Z (Qa (Qk Co Z (h2.one 5 Z)) Z (Qw Tryz.call33 Z (c_eqTokenS o4 x.tokens o9 y.tokens _ (hd4.rd.ext E) (hd9.rd.ext E)) Z (fun _ w6 e6 hv=>?_)))))))))
    subst hv
    replace E:=E.trans e6;replace h1:=h1.ext e6;replace h2:=h2.ext e6
    have z6:=e6.size
    refine Qa (Yy Z) Z (Qc (Qt Z (fun hc4=>?_) (fun hc4=>?_)))
    ·refine Qe (Qh [true] Z Z (Qa (Qf Z) Z (Qc (Qv (Qm Z Z E ?_)))))
     cases x;cases y;simp_all
    ·refine Qo (Qe (Qe (Qh [true,true,true,true,false,true] Z Z (Qa (Qb G6 Z) Z (Qa (Qk Bn Z (h1.one 6 Z)) Z (Qa (Qb G6 Z) Z (Qa (Qk Bn Z (h2.one 6 Z)) Z (Qw Tryz.call34 Z (c_eqNewsS o5 x.news o10 y.news _ (hd5.rd.ext E) (hd10.rd.ext E)) Z (fun _ w7 e7 hv=>?_)))))))))
     subst hv
     replace E:=E.trans e7;replace h1:=h1.ext e7;replace h2:=h2.ext e7
     have z7:=e7.size
     refine Qa (Yy Z) Z (Qc (Qt Z (fun hc5=>?_) (fun hc5=>?_)))
     ·refine Qe (Qh [true] Z Z (Qa (Qf Z) Z (Qc (Qv (Qm Z Z E ?_)))))
      cases x;cases y;simp_all
     ·refine Qo (Qe (Qh [true] Z Z (Qa (Qf Z) Z (Qc (Qv (Qm Z Z E ?_))))))
      cases x;cases y;simp_all

set_option maxRecDepth 20000 in
theorem c_toCluster (cx : List Value) (x : Cluster) (w : World) (hx : Dat.R w 0 w.heap.size cx x) (hb : Yb x ≤ 1048576) : Ct Tryz.prog 7 [.agg cx.toArray] w (fun v w'=>∃ o1 o2 o3 o4 o5,v = .agg [o1,.int .i64 x.graph.workers,.int .i64 x.graph.cap,o2,o3,o4,o5].toArray ∧ OwC w' w.heap.size w'.heap.size o1 o2 o3 o4 o5 x):=by
 unfold Yb at hb
 refine Ym Tryz.func7 Z Tryz.ntmps7 Z ?_
 obtain ⟨o1,o2,o3,o4,o5,rfl,hd1,hd2,hd3,hd4,hd5⟩:=Cluster.op hx
 refine Q8 [(0,.agg [o1,.int .i64 x.graph.workers,.int .i64 x.graph.cap,o2,o3,o4,o5].toArray)] ⟨Z,trivial⟩ ?_
 have E : Ext w w:=Ext.refl w
 refine Qe (Qh [false,false] Z Z (Y1 Z Z (fun b1 w1 e1 s1 h1=>?_)))
 have g_b1 : w.heap.size ≤ b1:=by have:=E.size;omega
 have y_b1:=h1.lt
 replace E:=E.trans e1
 have z1:=e1.size
 refine Yo Xw Z (fun b2 w2 e2 s2 h2=>?_)
 have g_b2 : w.heap.size ≤ b2:=by have:=E.size;omega
 have y_b2:=h2.lt
 replace E:=E.trans e2;replace h1:=h1.ext e2
 have z2:=e2.size
 refine Qc (Qe (Qh [false] Z Z (Yo Xw Z (fun b3 w3 e3 s3 h3=>?_))))
 have g_b3 : w.heap.size ≤ b3:=by have:=E.size;omega
 have y_b3:=h3.lt
 replace E:=E.trans e3;replace h1:=h1.ext e3;replace h2:=h2.ext e3
 have z3:=e3.size
 refine Qc (Qe (Qh [true,true,false,true,false] Z Z (Qa (Qb fl30_0 Z) Z (Qa (Qy st24 Z (h1.part 0 [o1,.int .i64 x.graph.workers,.int .i64 x.graph.cap] Z) Z) Z (Qw Tryz.call21 Z (c_toGraph [o1,.int .i64 x.graph.workers,.int .i64 x.graph.cap] x.graph _ (Graph.mkR x.graph (RdD.any (hd1.ext E))) (by first | omega | (simp only [Qi];omega) | (rw [Qi];done) | (simp only [Qi];done))) Z (fun _ w4 e4 ho1=>?_))))))
 obtain ⟨o6,rfl,ho1⟩:=ho1
 have g_ho1 : w.heap.size ≤ w3.heap.size:=E.size
 replace E:=E.trans e4;replace h1:=h1.ext e4;replace h2:=h2.ext e4;replace h3:=h3.ext e4
 have z4:=e4.size
 refine Qa (Qb Ue Z) Z (Q4 (cs':=[o6,.int .i64 x.graph.workers,.int .i64 x.graph.cap,.slice none 0 0,.slice none 0 0,.slice none 0 0,.slice none 0 0]) Uq Z Z Z (Qj (RdD.one (OwS.rd ho1)) (Qj Z (Qj Z Z))) h3 (Nat.le_of_ble_eq_true Z) Z (fun w5 m1 h3'=>?_))
 replace h3:=h3'
 replace E:=E.step m1 (fun g hg=>by cases hg;omega);replace h1:=h1.mod m1 (fun g hg=>by cases hg;omega);replace h2:=h2.mod m1 (fun g hg=>by cases hg;omega);replace ho1:=ho1.mod m1 (fun g hg=>by cases hg;omega)
 have z5:=m1.size
 refine Qc (Qe (Qh [true,true,false,true,false] Z Z (Qa (Qb fl30_1 Z) Z (Qa (Qk sc25 Z (h1.one 3 Z)) Z (Qw Tryz.call22 Z (c_toWorkerS o2 x.workers _ (RdD.any (hd2.ext E)) (by first | omega | (simp only [Qi];omega) | (rw [Qi];done) | (simp only [Qi];done))) Z (fun v1 w6 e5 ho2=>?_))))))
 have g_ho2 : w.heap.size ≤ w5.heap.size:=E.size
 replace E:=E.trans e5;replace h1:=h1.ext e5;replace h2:=h2.ext e5;replace h3:=h3.ext e5;replace ho1:=ho1.ext e5
 have z6:=e5.size
 refine Qa (Qb Xn Z) Z (Yj (cs':=[o6,.int .i64 x.graph.workers,.int .i64 x.graph.cap,v1,.slice none 0 0,.slice none 0 0,.slice none 0 0]) Uy Z Z (RdD.one (OwS.rd ho2)) h3 (Nat.le_of_ble_eq_true Z) Z (fun w7 m2 h3'=>?_))
 replace h3:=h3'
 replace E:=E.step m2 (fun g hg=>by cases hg;omega);replace h1:=h1.mod m2 (fun g hg=>by cases hg;omega);replace h2:=h2.mod m2 (fun g hg=>by cases hg;omega);replace ho1:=ho1.mod m2 (fun g hg=>by cases hg;omega);replace ho2:=ho2.mod m2 (fun g hg=>by cases hg;omega)
 have z7:=m2.size
 refine Qc (Qe (Qh [true,true,false,true,false] Z Z (Qa (Qb fl30_2 Z) Z (Qa (Qk sc26 Z (h1.one 4 Z)) Z (Qw Tryz.call23 Z (c_toLinkS o3 x.links _ (RdD.any (hd3.ext E)) (by first | omega | (simp only [Qi];omega) | (rw [Qi];done) | (simp only [Qi];done))) Z (fun v2 w8 e6 ho3=>?_))))))
 have g_ho3 : w.heap.size ≤ w7.heap.size:=E.size
 replace E:=E.trans e6;replace h1:=h1.ext e6;replace h2:=h2.ext e6;replace h3:=h3.ext e6;replace ho1:=ho1.ext e6;replace ho2:=ho2.ext e6
 have z8:=e6.size
 refine Qa (Qb Ko Z) Z (Yj (cs':=[o6,.int .i64 x.graph.workers,.int .i64 x.graph.cap,v1,v2,.slice none 0 0,.slice none 0 0]) Gh Z Z (RdD.one (OwS.rd ho3)) h3 (Nat.le_of_ble_eq_true Z) Z (fun w9 m3 h3'=>?_))
 replace h3:=h3'
 replace E:=E.step m3 (fun g hg=>by cases hg;omega);replace h1:=h1.mod m3 (fun g hg=>by cases hg;omega);replace h2:=h2.mod m3 (fun g hg=>by cases hg;omega);replace ho1:=ho1.mod m3 (fun g hg=>by cases hg;omega);replace ho2:=ho2.mod m3 (fun g hg=>by cases hg;omega);replace ho3:=ho3.mod m3 (fun g hg=>by cases hg;omega)
 have z9:=m3.size
 refine Qc (Qe (Qh [true,true,false,true,false] Z Z (Qa (Qb fl30_3 Z) Z (Qa (Qk sc27 Z (h1.one 5 Z)) Z (Qw Tryz.call24 Z (c_toTokenS o4 x.tokens _ (hd4.rd.ext E) (by first | omega | (simp only [Qi];omega) | (rw [Qi];done) | (simp only [Qi];done))) Z (fun v3 w10 e7 ho4=>?_))))))
 have g_ho4 : w.heap.size ≤ w9.heap.size:=E.size
 replace E:=E.trans e7;replace h1:=h1.ext e7;replace h2:=h2.ext e7;replace h3:=h3.ext e7;replace ho1:=ho1.ext e7;replace ho2:=ho2.ext e7;replace ho3:=ho3.ext e7
 have z10:=e7.size
 refine Qa (Qb Ve Z) Z (Yj (cs':=[o6,.int .i64 x.graph.workers,.int .i64 x.graph.cap,v1,v2,v3,.slice none 0 0]) Co Z Z ho4.one h3 (Nat.le_of_ble_eq_true Z) Z (fun w11 m4 h3'=>?_))
 replace h3:=h3'
 replace E:=E.step m4 (fun g hg=>by cases hg;omega);replace h1:=h1.mod m4 (fun g hg=>by cases hg;omega);replace h2:=h2.mod m4 (fun g hg=>by cases hg;omega);replace ho1:=ho1.mod m4 (fun g hg=>by cases hg;omega);replace ho2:=ho2.mod m4 (fun g hg=>by cases hg;omega);replace ho3:=ho3.mod m4 (fun g hg=>by cases hg;omega);replace ho4:=ho4.mod m4 (fun g hg=>by cases hg;omega)
 have z11:=m4.size
 refine Qc (Qe (Qh [true,true,false,true,false] Z Z (Qa (Qb fl30_4 Z) Z (Qa (Qk sc28 Z (h1.one 6 Z)) Z (Qw Tryz.call25 Z (c_toNewsS o5 x.news _ (hd5.rd.ext E) (by first | omega | (simp only [Qi];omega) | (rw [Qi];done) | (simp only [Qi];done))) Z (fun v4 w12 e8 ho5=>?_))))))
 have g_ho5 : w.heap.size ≤ w11.heap.size:=E.size
 replace E:=E.trans e8;replace h1:=h1.ext e8;replace h2:=h2.ext e8;replace h3:=h3.ext e8;replace ho1:=ho1.ext e8;replace ho2:=ho2.ext e8;replace ho3:=ho3.ext e8;replace ho4:=ho4.ext e8
 have z12:=e8.size
 refine Qa (Qb G6 Z) Z (Yj (cs':=[o6,.int .i64 x.graph.workers,.int .i64 x.graph.cap,v1,v2,v3,v4]) Bn Z Z ho5.one h3 (Nat.le_of_ble_eq_true Z) Z (fun w13 m5 h3'=>?_))
 replace h3:=h3'
 replace E:=E.step m5 (fun g hg=>by cases hg;omega);replace h1:=h1.mod m5 (fun g hg=>by cases hg;omega);replace h2:=h2.mod m5 (fun g hg=>by cases hg;omega);replace ho1:=ho1.mod m5 (fun g hg=>by cases hg;omega);replace ho2:=ho2.mod m5 (fun g hg=>by cases hg;omega);replace ho3:=ho3.mod m5 (fun g hg=>by cases hg;omega);replace ho4:=ho4.mod m5 (fun g hg=>by cases hg;omega);replace ho5:=ho5.mod m5 (fun g hg=>by cases hg;omega)
 have z13:=m5.size
 refine Qc (Qe (Qh [true,false] Z Z (Qa (Qy Xw Z h3.at Z) Z (Q4 (cs':=[o6,.int .i64 x.graph.workers,.int .i64 x.graph.cap,v1,v2,v3,v4]) Xw Z Z Z (Qj (RdD.one (OwS.rd ho1)) (Qj Z (Qj Z (Qj (RdD.one (OwS.rd ho2)) (Qj (RdD.one (OwS.rd ho3)) (Qj ho4.one (Qj ho5.one Z))))))) h2 (Nat.le_of_ble_eq_true Z) Z (fun w14 m6 h2'=>?_)))))
 replace h2:=h2'
 replace E:=E.step m6 (fun g hg=>by cases hg;omega);replace h1:=h1.mod m6 (fun g hg=>by cases hg;omega);replace h3:=h3.mod m6 (fun g hg=>by cases hg;omega);replace ho1:=ho1.mod m6 (fun g hg=>by cases hg;omega);replace ho2:=ho2.mod m6 (fun g hg=>by cases hg;omega);replace ho3:=ho3.mod m6 (fun g hg=>by cases hg;omega);replace ho4:=ho4.mod m6 (fun g hg=>by cases hg;omega);replace ho5:=ho5.mod m6 (fun g hg=>by cases hg;omega)
 have z14:=m6.size
 refine Qc (Qv (X3 Z Z (Yd Xw h2.at Z) E ?_))
 exact ⟨_,_,_,_,_,Z,OwC.of x ho1 ho2 ho3 ho4 ho5 (by have:=E.size;omega) (by omega)⟩

set_option maxRecDepth 20000 in
theorem c_allRecordsOk (vxs : Value) (xs : List Record) (w : World) (hxs : RdS w vxs xs) : Ct Tryz.prog 119 [vxs] w (fun v _=>v = .bool (xs.all Y2)):=by
 refine Ym Tryz.func119 Z Tryz.ntmps119 Z ?_
 refine Q8 [(0,vxs)] ⟨Z,trivial⟩ ?_
 have E : Ext w w:=Ext.refl w
 refine Qe (Qh [true] Z Z (Qa (Qf Z) Z (Qc (Qe (Qe (Qh [true,true,true] Z Z (Qa (Qd Z) Z (Qa (Yc Tryz.underlying66 Z (hxs.ext E).len) Z (Qa (Qd Z) Z (Qc (Q0 (Yp (fun (k : Nat)=>[(2,.bool false),(5,vxs),(6,.int .i64 ((xs.length : Nat) : Int)),(7,.int .i64 ((k : Nat) : Int))]) (fun (k : Nat) w'=>Ext w w' ∧ w.heap.size ≤ w'.heap.size ∧ k ≤ xs.length ∧ (xs.take k).all Y2 = true) (fun (k : Nat)=>xs.length - k) 0 ⟨Z,Z,Z,Z,trivial⟩ ⟨E,Nat.le_refl _,Nat.zero_le _,Z⟩ ?_))))))))))))
 clear E
 rintro k w1 ⟨E,z1,hk,hI⟩
 refine Qe (Qh [true] Z Z (Qa (Yi Z Z) Z (Qc (Qe (Qt Z (fun hc1=>?_) (fun hc1=>?_))))))
 ·have hc1n : k < xs.length:=by first | (have h:=of_decide_eq_true hc1;omega) | (have h:=hc1;simp at h;omega)
  refine Qo (Qe (Q0 (Qe (Qh [true,true,false,false] Z Z ?_))))
  have hi1 : k < xs.length:=(by first | assumption | omega | (simp only [List.length_set];first | assumption | omega) | (simp only [List.getElem_set_self,List.length_set];first | assumption | omega) | (simp only [Yn,Yh,List.length_set];first | assumption | omega))
  refine Qa (Qz (i:=k) Kn Z Z (hxs.ext E) hi1) Z (Qa (Qy Ul Z ((hxs.ext E).get hi1) Z) Z (Yo Ul Z (fun b1 w2 e1 s1 h1=>?_)))
  have g_b1 : w.heap.size ≤ b1:=by have:=E.size;omega
  have y_b1:=h1.lt
  replace E:=E.trans e1
  have z2:=e1.size
  refine Q4 (cs':=[.int .i64 ((xs[k]'hi1).op),.int .i64 (((xs[k]'hi1).stamp).epoch),.int .i64 (((xs[k]'hi1).stamp).turn),.int .i64 ((xs[k]'hi1).key),.int .i64 ((xs[k]'hi1).val)]) Ul Z Z Z Z h1 (Nat.le_of_ble_eq_true Z) Z (fun w3 m1 h1'=>?_)
  replace h1:=h1'
  replace E:=E.step m1 (fun g hg=>by cases hg;omega)
  have z3:=m1.size
  refine Qc (Qe (Qh [true,false,true] Z Z (Qa (Qy Ul Z h1.at Z) Z (Qw Tryz.call92 Z (c_RecordOk (xs[k]'hi1) _ ) Z (fun _ w4 e2 hv=>?_)))))
  subst hv
  replace E:=E.trans e2;replace h1:=h1.ext e2
  have z4:=e2.size
  refine Qa (Yy Z) Z (Qc (Qt Z (fun hc2=>?_) (fun hc2=>?_)))
  ·refine Qe (Qh [true] Z Z (Qa (Qf Z) Z (Qc (Qv (Q2 (Yv (Q2 (Qm Z Z E ?_))))))))
   exact all_no (by assumption) (by simpa using hc2)
  ·refine Qo (Q6 (Y0 (Qh [true,true] Z Z (Qa (Ye Z Z (Y3 hc1n hxs.1)) Z (Qa (Qd Z) Z (Qc (Q6 (Yk (k + 1) (by omega) ⟨Z,Z,Z,Z,trivial⟩ ⟨E,(by omega),(by omega),Kh hI (by assumption) (by simpa using hc2)⟩))))))))
 ·have hc1n : ¬ k < xs.length:=by first | (have h:=of_decide_eq_false hc1;omega) | (have h:=hc1;simp at h;omega)
  refine Yq (Q5 (Q3 ?_))
  refine Qe (Qh [true] Z Z (Qa (Qf Z) Z (Qc (Qv (Qm Z Z E ?_)))))
  exact Be hI (by omega)

set_option maxRecDepth 20000 in
theorem c_LinkOk (cx : List Value) (x : Link) (w : World) (hx : Dat.R w 0 w.heap.size cx x) (hr : rg x.got) : Ct Tryz.prog 70 [.agg cx.toArray] w (fun v _=>v = .bool (Xa x)):=by
 refine Ym Tryz.func70 Z Tryz.ntmps70 Z ?_
 obtain ⟨o1,rfl,hd1⟩:=Link.op hx
 refine Q8 [(0,.agg [.int .i64 x.cap,o1,.int .i64 x.credits,.int .i64 x.back,.int .i64 x.sent,.int .i64 x.got].toArray)] ⟨Z,trivial⟩ ?_
 have E : Ext w w:=Ext.refl w
 refine Qe (Qh [false,true] Z Z (Y1 Z Z (fun b1 w1 e1 s1 h1=>?_)))
 have g_b1 : w.heap.size ≤ b1:=by have:=E.size;omega
 have y_b1:=h1.lt
 replace E:=E.trans e1
 have z1:=e1.size
 refine Qa (Qf Z) Z (Qc (Qe (Qe (Qh [true,true,false,true,true,true,true,true,true,false,true,true,true,true,true,true,true,false,true,true,true,true,true,true,true,true,true,true,true,true,true,true,true,true] Z Z (Qa (Qb Vo Z) Z (Qa (Qk Yt Z (h1.one 0 Z)) Z (Qw Tryz.call71 Z (c_within x.cap 1 4 _ ) Z (fun _ w2 e2 hv=>?_))))))))
 subst hv
 replace E:=E.trans e2;replace h1:=h1.ext e2
 have z2:=e2.size
 refine Qa (Yy Z) Z (Qa (Qd Z) Z (Xf 29 [(0,.agg [.int .i64 x.cap,o1,.int .i64 x.credits,.int .i64 x.back,.int .i64 x.sent,.int .i64 x.got].toArray),(1,.pointer (some ⟨b1,0,none⟩)),(2,.bool false),(36,.bool ((((!(Yr x.cap 1 4)) || (!(Yr x.credits 0 x.cap))) || (!(Yr x.back 0 x.cap))) || ((IntKind.i64.wrap ((IntKind.i64.wrap (x.credits + x.back)) + ((x.queue.length : Nat) : Int))) != x.cap)))] (fun w'=>Ext w w' ∧ w2.heap.size ≤ w'.heap.size ∧ Blk w' b1 ([.int .i64 x.cap,o1,.int .i64 x.credits,.int .i64 x.back,.int .i64 x.sent,.int .i64 x.got])) ?_ ?_))
 ·refine Y4 (gd:=7) Z Z (fun hg1=>?_) (fun hg1=>?_)
  ·refine Qg Z Z Z Z (Qg Z Z Z Z (Qg Z Z Z Z (Qg Z Z Z Z ?_)))
   refine Yx Z Z Z Z ?_
   refine Qg Z Z Z Z (Qa (Qx Z Z) Z (Qa (Qd Z) Z (Qg Z Z Z Z (Qg Z Z Z Z (Qg Z Z Z Z (Qg Z Z Z Z ?_))))))
   refine Yx Z Z Z Z ?_
   refine Qg Z Z Z Z (Qa (Qx Z Z) Z (Qa (Qd Z) Z (Qg Z Z Z Z (Qg Z Z Z Z (Qg Z Z Z Z (Qg Z Z Z Z (Qg Z Z Z Z (Qg Z Z Z Z (Qg Z Z Z Z (Qg Z Z Z Z (Qg Z Z Z Z (Qg Z Z Z Z (Qg Z Z Z Z (Qg Z Z Z Z (Qa (Qx Z Z) Z (Qr ⟨Z,Z,Z,congrArg (fun b=>some (Value.bool b)) (show true = ((((!(Yr x.cap 1 4)) || (!(Yr x.credits 0 x.cap))) || (!(Yr x.back 0 x.cap))) || ((IntKind.i64.wrap ((IntKind.i64.wrap (x.credits + x.back)) + ((x.queue.length : Nat) : Int))) != x.cap)) by first | (rw [hg1] <;> rfl) | (simp [hg1];done) | (simp only [Qq] <;> simp)),trivial⟩ ⟨E,(by omega),h1⟩))))))))))))))))
  ·refine Qn Z Z (Qb Vn Z) Z (Qn Z Z (Qk Yt Z (h1.one 2 Z)) Z (Qn Z Z (Qb Vo Z) Z (Qn Z Z (Qk Yt Z (h1.one 0 Z)) Z ?_)))
   refine X2 Z Z ?_
   refine Qw Tryz.call71 Z (c_within x.credits 0 x.cap _ ) Z (fun _ w4 e3 hv=>?_)
   subst hv
   replace E:=E.trans e3;replace h1:=h1.ext e3
   have z3:=e3.size
   refine Qn Z Z (Yy Z) Z (Qa (Q1 Z Z) Z (Qa (Qd Z) Z ?_))
   refine Y4 (gd:=15) Z Z (fun hg2=>?_) (fun hg2=>?_)
   ·refine Qg Z Z Z Z (Qg Z Z Z Z (Qg Z Z Z Z (Qg Z Z Z Z ?_)))
    refine Yx Z Z Z Z ?_
    refine Qg Z Z Z Z (Qa (Qx Z Z) Z (Qa (Qd Z) Z (Qg Z Z Z Z (Qg Z Z Z Z (Qg Z Z Z Z (Qg Z Z Z Z (Qg Z Z Z Z (Qg Z Z Z Z (Qg Z Z Z Z (Qg Z Z Z Z (Qg Z Z Z Z (Qg Z Z Z Z (Qg Z Z Z Z (Qg Z Z Z Z (Qa (Qx Z Z) Z (Qr ⟨Z,Z,Z,congrArg (fun b=>some (Value.bool b)) (show true = ((((!(Yr x.cap 1 4)) || (!(Yr x.credits 0 x.cap))) || (!(Yr x.back 0 x.cap))) || ((IntKind.i64.wrap ((IntKind.i64.wrap (x.credits + x.back)) + ((x.queue.length : Nat) : Int))) != x.cap)) by first | (rw [hg1,hg2] <;> rfl) | (simp [hg1,hg2];done) | (simp only [Qq] <;> simp)),trivial⟩ ⟨E,(by omega),h1⟩))))))))))))))))
   ·refine Qn Z Z (Qb Ti Z) Z (Qn Z Z (Qk Yt Z (h1.one 3 Z)) Z (Qn Z Z (Qb Vo Z) Z (Qn Z Z (Qk Yt Z (h1.one 0 Z)) Z ?_)))
    refine X2 Z Z ?_
    refine Qw Tryz.call71 Z (c_within x.back 0 x.cap _ ) Z (fun _ w5 e4 hv=>?_)
    subst hv
    replace E:=E.trans e4;replace h1:=h1.ext e4
    have z4:=e4.size
    refine Qn Z Z (Yy Z) Z (Qa (Q1 Z Z) Z (Qa (Qd Z) Z ?_))
    refine Y4 (gd:=23) Z Z (fun hg3=>?_) (fun hg3=>?_)
    ·refine Qg Z Z Z Z (Qg Z Z Z Z (Qg Z Z Z Z (Qg Z Z Z Z (Qg Z Z Z Z (Qg Z Z Z Z (Qg Z Z Z Z (Qg Z Z Z Z (Qg Z Z Z Z (Qg Z Z Z Z (Qg Z Z Z Z (Qg Z Z Z Z (Qa (Qx Z Z) Z (Qr ⟨Z,Z,Z,congrArg (fun b=>some (Value.bool b)) (show true = ((((!(Yr x.cap 1 4)) || (!(Yr x.credits 0 x.cap))) || (!(Yr x.back 0 x.cap))) || ((IntKind.i64.wrap ((IntKind.i64.wrap (x.credits + x.back)) + ((x.queue.length : Nat) : Int))) != x.cap)) by first | (rw [hg1,hg2,hg3] <;> rfl) | (simp [hg1,hg2,hg3];done) | (simp only [Qq] <;> simp)),trivial⟩ ⟨E,(by omega),h1⟩)))))))))))))
    ·refine Qn Z Z (Qb Vn Z) Z (Qn Z Z (Qk Yt Z (h1.one 2 Z)) Z (Qn Z Z (Qb Ti Z) Z (Qn Z Z (Qk Yt Z (h1.one 3 Z)) Z (Qn Z Z (Ye Z Z Z) Z (Qn Z Z (Qb Kv Z) Z (Qn Z Z (Qk Xq Z (h1.one 1 Z)) Z (Qn Z Z (Yc Tryz.underlying66 Z (hd1.ext E).len) Z (Qn Z Z (Ye Z Z Z) Z (Qn Z Z (Qb Vo Z) Z (Qn Z Z (Qk Yt Z (h1.one 0 Z)) Z (Qn Z Z (Yu Z Z) Z (Qa (Q1 Z Z) Z (Qr ⟨Z,Z,Z,congrArg (fun b=>some (Value.bool b)) (show ((IntKind.i64.wrap ((IntKind.i64.wrap (x.credits + x.back)) + ((x.queue.length : Nat) : Int))) != x.cap) = ((((!(Yr x.cap 1 4)) || (!(Yr x.credits 0 x.cap))) || (!(Yr x.back 0 x.cap))) || ((IntKind.i64.wrap ((IntKind.i64.wrap (x.credits + x.back)) + ((x.queue.length : Nat) : Int))) != x.cap)) by first | (rw [hg1,hg2,hg3] <;> rfl) | (simp [hg1,hg2,hg3];done) | (simp only [Qq] <;> simp)),trivial⟩ ⟨E,(by omega),h1⟩)))))))))))))
 clear E h1
 rintro w3 ⟨E,z5,h1⟩
 refine Qc (Qt Z (fun hc1=>?_) (fun hc1=>?_))
 ·refine Qe (Qh [true] Z Z (Qa (Qf Z) Z (Qc (Qv (Qm Z Z E ?_)))))
  exact bf fun h=>lk_i1 h hc1
 ·refine Qo (Qe (Qe (Qh [true,true,false,true,true,true,true,true,true,true,true,true,true,true,true,true,true,true,true,true] Z Z (Qa (Qb Vm Z) Z (Qa (Qk Yt Z (h1.one 4 Z)) Z (Qw Tryz.call71 Z (c_within x.sent 0 1000000000 _ ) Z (fun _ w6 e5 hv=>?_)))))))
  subst hv
  replace E:=E.trans e5;replace h1:=h1.ext e5
  have z6:=e5.size
  refine Qa (Yy Z) Z (Qa (Qd Z) Z (Xf 15 [(0,.agg [.int .i64 x.cap,o1,.int .i64 x.credits,.int .i64 x.back,.int .i64 x.sent,.int .i64 x.got].toArray),(1,.pointer (some ⟨b1,0,none⟩)),(2,.bool false),(36,.bool ((((!(Yr x.cap 1 4)) || (!(Yr x.credits 0 x.cap))) || (!(Yr x.back 0 x.cap))) || ((IntKind.i64.wrap ((IntKind.i64.wrap (x.credits + x.back)) + ((x.queue.length : Nat) : Int))) != x.cap))),(56,.bool (((!(Yr x.sent 0 1000000000)) || (decide (x.got < 0))) || ((IntKind.i64.wrap (x.sent - x.got)) != ((x.queue.length : Nat) : Int))))] (fun w'=>w6 = w') ?_ ?_))
  ·refine Y4 (gd:=41) Z Z (fun hg4=>?_) (fun hg4=>?_)
   ·refine Qg Z Z Z Z (Qg Z Z Z Z (Qg Z Z Z Z (Qa (Qx Z Z) Z (Qa (Qd Z) Z (Qg Z Z Z Z (Qg Z Z Z Z (Qg Z Z Z Z (Qg Z Z Z Z (Qg Z Z Z Z (Qg Z Z Z Z (Qg Z Z Z Z (Qg Z Z Z Z (Qg Z Z Z Z (Qa (Qx Z Z) Z (Qr ⟨Z,Z,Z,Z,congrArg (fun b=>some (Value.bool b)) (show true = (((!(Yr x.sent 0 1000000000)) || (decide (x.got < 0))) || ((IntKind.i64.wrap (x.sent - x.got)) != ((x.queue.length : Nat) : Int))) by first | (rw [hg4] <;> rfl) | (simp [hg4];done) | (simp only [Qq] <;> simp)),trivial⟩ Z)))))))))))))))
   ·refine Qn Z Z (Qb Th Z) Z (Qn Z Z (Qk Yt Z (h1.one 5 Z)) Z (Qn Z Z (Yi Z Z) Z (Qa (Q1 Z Z) Z (Qa (Qd Z) Z ?_))))
    refine Y4 (gd:=46) Z Z (fun hg5=>?_) (fun hg5=>?_)
    ·refine Qg Z Z Z Z (Qg Z Z Z Z (Qg Z Z Z Z (Qg Z Z Z Z (Qg Z Z Z Z (Qg Z Z Z Z (Qg Z Z Z Z (Qg Z Z Z Z (Qg Z Z Z Z (Qa (Qx Z Z) Z (Qr ⟨Z,Z,Z,Z,congrArg (fun b=>some (Value.bool b)) (show true = (((!(Yr x.sent 0 1000000000)) || (decide (x.got < 0))) || ((IntKind.i64.wrap (x.sent - x.got)) != ((x.queue.length : Nat) : Int))) by first | (rw [hg4,hg5] <;> rfl) | (simp [hg4,hg5];done) | (simp only [Qq] <;> simp)),trivial⟩ Z))))))))))
    ·refine Qn Z Z (Qb Vm Z) Z (Qn Z Z (Qk Yt Z (h1.one 4 Z)) Z (Qn Z Z (Qb Th Z) Z (Qn Z Z (Qk Yt Z (h1.one 5 Z)) Z (Qn Z Z (K6 Z Z Z) Z (Qn Z Z (Qb Kv Z) Z (Qn Z Z (Qk Xq Z (h1.one 1 Z)) Z (Qn Z Z (Yc Tryz.underlying66 Z (hd1.ext E).len) Z (Qn Z Z (Yu Z Z) Z (Qa (Q1 Z Z) Z (Qr ⟨Z,Z,Z,Z,congrArg (fun b=>some (Value.bool b)) (show ((IntKind.i64.wrap (x.sent - x.got)) != ((x.queue.length : Nat) : Int)) = (((!(Yr x.sent 0 1000000000)) || (decide (x.got < 0))) || ((IntKind.i64.wrap (x.sent - x.got)) != ((x.queue.length : Nat) : Int))) by first | (rw [hg4,hg5] <;> rfl) | (simp [hg4,hg5];done) | (simp only [Qq] <;> simp)),trivial⟩ Z))))))))))
  rintro _ rfl
  refine Qc (Qt Z (fun hc2=>?_) (fun hc2=>?_))
  ·refine Qe (Qh [true] Z Z (Qa (Qf Z) Z (Qc (Qv (Qm Z Z E ?_)))))
   exact bf fun h=>lk_i2 hr h hc2
  ·refine Qo (Qe (Qh [true,true,false,true] Z Z (Qa (Qb Kv Z) Z (Qa (Qk Xq Z (h1.one 1 Z)) Z (Qw Tryz.call119 Z (c_allRecordsOk o1 x.queue _ (hd1.rd.ext E)) Z (fun _ w8 e6 hv=>?_))))))
   subst hv
   replace E:=E.trans e6;replace h1:=h1.ext e6
   have z7:=e6.size
   refine Qa (Qf Z) Z (Qc (Qv (Qm Z Z E ?_)))
   exact congrArg Value.bool (lk_i3 hr hc1 hc2).symm

set_option maxRecDepth 20000 in
theorem s_LinkOk (cx : List Value) (x : Link) (w : World) (hx : Dat.R w 0 w.heap.size cx x) : Ct Tryz.prog 104 [.agg cx.toArray] w (fun v _=>v = .bool (Xa x)):=by
 refine Ym Tryz.func104 Z Tryz.ntmps104 Z ?_
 obtain ⟨o1,rfl,hd1⟩:=Link.op hx
 refine Q8 [(0,.agg [.int .i64 x.cap,o1,.int .i64 x.credits,.int .i64 x.back,.int .i64 x.sent,.int .i64 x.got].toArray)] ⟨Z,trivial⟩ ?_
 have E : Ext w w:=Ext.refl w
 refine Qe (Qh [false,true] Z Z (Y1 Z Z (fun b1 w1 e1 s1 h1=>?_)))
 have g_b1 : w.heap.size ≤ b1:=by have:=E.size;omega
 have y_b1:=h1.lt
 replace E:=E.trans e1
 have z1:=e1.size
 refine Qa (Qf Z) Z (Qc (Qe (Qe (Qh [true] Z Z (Qa (Qf Z) Z (Qc (Q0 (Yp (fun (k : Nat)=>[(1,.pointer (some ⟨b1,0,none⟩)),(2,.bool false),(3,.int .i64 ((k : Nat) : Int))]) (fun (k : Nat) w'=>Ext w w' ∧ w1.heap.size ≤ w'.heap.size ∧ Blk w' b1 ([.int .i64 x.cap,o1,.int .i64 x.credits,.int .i64 x.back,.int .i64 x.sent,.int .i64 x.got]) ∧ k ≤ x.queue.length ∧ (x.queue.take k).all Y2 = true) (fun (k : Nat)=>x.queue.length - k) 0 ⟨Z,Z,Z,trivial⟩ ⟨E,Nat.le_refl _,h1,Nat.zero_le _,Z⟩ ?_))))))))
 clear E h1
 rintro k w2 ⟨E,z2,h1,hk,hI⟩
 refine Qe (Qe (Qh [true,true,true,true,true] Z Z (Qa (Qd Z) Z (Qa (Qb Kv Z) Z (Qa (Qk Xq Z (h1.one 1 Z)) Z (Qa (Yc Tryz.underlying66 Z (hd1.ext E).len) Z (Qa (Yi Z Z) Z (Qc (Qt Z (fun hc1=>?_) (fun hc1=>?_))))))))))
 ·have hc1n : k < x.queue.length:=by first | (have h:=of_decide_eq_true hc1;omega) | (have h:=hc1;simp at h;omega)
  refine Qo (Qe (Q0 (Qe (Qh [true,true,true,true,true,false,true] Z Z (Qa (Qb Kv Z) Z (Qa (Qk Xq Z (h1.one 1 Z)) Z (Qa (Qd Z) Z ?_)))))))
  have hi1 : k < x.queue.length:=(by first | assumption | omega | (simp only [List.length_set];first | assumption | omega) | (simp only [List.getElem_set_self,List.length_set];first | assumption | omega) | (simp only [Yn,Yh,List.length_set];first | assumption | omega))
  refine Qa (Qz (i:=k) Kn Z Z (hd1.rd.ext E) hi1) Z (Qa (Qy Ul Z ((hd1.rd.ext E).get hi1) Z) Z (Qw Tryz.call126 Z (s_RecordOk (x.queue[k]'hi1) _ ) Z (fun _ w3 e2 hv=>?_)))
  subst hv
  replace E:=E.trans e2;replace h1:=h1.ext e2
  have z3:=e2.size
  refine Qa (Yy Z) Z (Qc (Qt Z (fun hc2=>?_) (fun hc2=>?_)))
  ·refine Qe (Qh [true] Z Z (Qa (Qf Z) Z (Qc (Qv (Q2 (Yv (Q2 (Qm Z Z E ?_))))))))
   exact bf fun h=>lk_s1 (by assumption) h hc2
  ·refine Qo (Q6 (Y0 (Qh [true,true,true] Z Z (Qa (Qd Z) Z (Qa (Ye Z Z (Y3 hc1n (hd1.ext E).1.1)) Z (Qa (Qf Z) Z (Qc (Q6 (Yk (k + 1) (by omega) ⟨Z,Z,Z,trivial⟩ ⟨E,(by omega),h1,(by omega),Kh hI (by assumption) (by simpa using hc2)⟩)))))))))
 ·have hc1n : ¬ k < x.queue.length:=by first | (have h:=of_decide_eq_false hc1;omega) | (have h:=hc1;simp at h;omega)
  refine Yq (Q5 (Q3 ?_))
  refine Qe (Qh [true,true,false,true,true,true,true,true,false,true,true,true,true,true,true,false,true,true,true,true,true,true,true,true,true,true,true,true,true,true,true,true,true,true,false,true,true,true,true,true,true,true,true,true,true,true,true,true,true,true,true,true,true] Z Z (Qa (Qb Vo Z) Z (Qa (Qk Yt Z (h1.one 0 Z)) Z (Qw Tryz.call106 Z (s_l01In x.cap 1 4 _ ) Z (fun _ w4 e3 hv=>?_)))))
  subst hv
  replace E:=E.trans e3;replace h1:=h1.ext e3
  have z4:=e3.size
  refine Qa (Qd Z) Z (Xf 48 [(1,.pointer (some ⟨b1,0,none⟩)),(2,.bool false),(3,.int .i64 ((k : Nat) : Int)),(4,.int .i64 ((k : Nat) : Int)),(5,.pointer (some ⟨b1,1,none⟩)),(6,o1),(7,.int .i64 ((x.queue.length : Nat) : Int)),(8,.bool (decide (((k : Nat) : Int) < ((x.queue.length : Nat) : Int)))),(69,.bool (((((((Yr x.cap 1 4) && (Yr x.credits 0 x.cap)) && (Yr x.back 0 x.cap)) && ((IntKind.i64.wrap ((IntKind.i64.wrap (x.credits + x.back)) + ((x.queue.length : Nat) : Int))) == x.cap)) && (Yr x.sent 0 1000000000)) && (x.got == (IntKind.i64.wrap (x.sent - ((x.queue.length : Nat) : Int))))) && (decide (0 ≤ x.got))))] (fun w'=>Ext w w' ∧ w4.heap.size ≤ w'.heap.size ∧ Blk w' b1 ([.int .i64 x.cap,o1,.int .i64 x.credits,.int .i64 x.back,.int .i64 x.sent,.int .i64 x.got])) ?_ ?_)
  ·refine Y4 (gd:=21) Z Z (fun hg1=>?_) (fun hg1=>?_)
   ·refine Qn Z Z (Qb Vn Z) Z (Qn Z Z (Qk Yt Z (h1.one 2 Z)) Z (Qn Z Z (Qb Vo Z) Z (Qn Z Z (Qk Yt Z (h1.one 0 Z)) Z ?_)))
    refine X2 Z Z ?_
    refine Qw Tryz.call106 Z (s_l01In x.credits 0 x.cap _ ) Z (fun _ w6 e4 hv=>?_)
    subst hv
    replace E:=E.trans e4;replace h1:=h1.ext e4
    have z5:=e4.size
    refine Qa (Qx Z Z) Z (Qa (Qd Z) Z (Y4 (gd:=28) Z Z (fun hg2=>?_) (fun hg2=>?_)))
    ·refine Qn Z Z (Qb Ti Z) Z (Qn Z Z (Qk Yt Z (h1.one 3 Z)) Z (Qn Z Z (Qb Vo Z) Z (Qn Z Z (Qk Yt Z (h1.one 0 Z)) Z ?_)))
     refine X2 Z Z ?_
     refine Qw Tryz.call106 Z (s_l01In x.back 0 x.cap _ ) Z (fun _ w7 e5 hv=>?_)
     subst hv
     replace E:=E.trans e5;replace h1:=h1.ext e5
     have z6:=e5.size
     refine Qa (Qx Z Z) Z (Qa (Qd Z) Z (Y4 (gd:=35) Z Z (fun hg3=>?_) (fun hg3=>?_)))
     ·refine Qn Z Z (Qb Vn Z) Z (Qn Z Z (Qk Yt Z (h1.one 2 Z)) Z (Qn Z Z (Qb Ti Z) Z (Qn Z Z (Qk Yt Z (h1.one 3 Z)) Z (Qn Z Z (Ye Z Z Z) Z (Qn Z Z (Qb Kv Z) Z (Qn Z Z (Qk Xq Z (h1.one 1 Z)) Z (Qn Z Z (Yc Tryz.underlying66 Z (hd1.ext E).len) Z (Qn Z Z (Ye Z Z Z) Z (Qn Z Z (Qb Vo Z) Z (Qn Z Z (Qk Yt Z (h1.one 0 Z)) Z (Qn Z Z (Xm Z Z) Z (Qa (Qx Z Z) Z (Qa (Qd Z) Z ?_)))))))))))))
      refine Y4 (gd:=49) Z Z (fun hg4=>?_) (fun hg4=>?_)
      ·refine Qn Z Z (Qb Vm Z) Z (Qn Z Z (Qk Yt Z (h1.one 4 Z)) Z ?_)
       refine X2 Z Z ?_
       refine Qw Tryz.call106 Z (s_l01In x.sent 0 1000000000 _ ) Z (fun _ w8 e6 hv=>?_)
       subst hv
       replace E:=E.trans e6;replace h1:=h1.ext e6
       have z7:=e6.size
       refine Qa (Qx Z Z) Z (Qa (Qd Z) Z (Y4 (gd:=54) Z Z (fun hg5=>?_) (fun hg5=>?_)))
       ·refine Qn Z Z (Qb Th Z) Z (Qn Z Z (Qk Yt Z (h1.one 5 Z)) Z (Qn Z Z (Qb Vm Z) Z (Qn Z Z (Qk Yt Z (h1.one 4 Z)) Z (Qn Z Z (Qb Kv Z) Z (Qn Z Z (Qk Xq Z (h1.one 1 Z)) Z (Qn Z Z (Yc Tryz.underlying66 Z (hd1.ext E).len) Z (Qn Z Z (K6 Z Z Z) Z (Qn Z Z (Xm Z Z) Z (Qa (Qx Z Z) Z (Qa (Qd Z) Z ?_))))))))))
        refine Y4 (gd:=65) Z Z (fun hg6=>?_) (fun hg6=>?_)
        ·refine Qn Z Z (Qb Th Z) Z (Qn Z Z (Qk Yt Z (h1.one 5 Z)) Z (Qn Z Z (Tt Z Z) Z (Qa (Qx Z Z) Z (Qr ⟨Z,Z,Z,Z,Z,Z,Z,Z,congrArg (fun b=>some (Value.bool b)) (show (decide (0 ≤ x.got)) = (((((((Yr x.cap 1 4) && (Yr x.credits 0 x.cap)) && (Yr x.back 0 x.cap)) && ((IntKind.i64.wrap ((IntKind.i64.wrap (x.credits + x.back)) + ((x.queue.length : Nat) : Int))) == x.cap)) && (Yr x.sent 0 1000000000)) && (x.got == (IntKind.i64.wrap (x.sent - ((x.queue.length : Nat) : Int))))) && (decide (0 ≤ x.got))) by first | (rw [hg1,hg2,hg3,hg4,hg5,hg6] <;> rfl) | (simp [hg1,hg2,hg3,hg4,hg5,hg6];done) | (simp only [Qq] <;> simp)),trivial⟩ ⟨E,(by omega),h1⟩))))
        ·refine Qg Z Z Z Z (Qg Z Z Z Z (Qg Z Z Z Z (Qa (Q1 Z Z) Z (Qr ⟨Z,Z,Z,Z,Z,Z,Z,Z,congrArg (fun b=>some (Value.bool b)) (show false = (((((((Yr x.cap 1 4) && (Yr x.credits 0 x.cap)) && (Yr x.back 0 x.cap)) && ((IntKind.i64.wrap ((IntKind.i64.wrap (x.credits + x.back)) + ((x.queue.length : Nat) : Int))) == x.cap)) && (Yr x.sent 0 1000000000)) && (x.got == (IntKind.i64.wrap (x.sent - ((x.queue.length : Nat) : Int))))) && (decide (0 ≤ x.got))) by first | (rw [hg1,hg2,hg3,hg4,hg5,hg6] <;> rfl) | (simp [hg1,hg2,hg3,hg4,hg5,hg6];done) | (simp only [Qq] <;> simp)),trivial⟩ ⟨E,(by omega),h1⟩))))
       ·refine Qg Z Z Z Z (Qg Z Z Z Z (Qg Z Z Z Z (Qg Z Z Z Z (Qg Z Z Z Z (Qg Z Z Z Z (Qg Z Z Z Z (Qg Z Z Z Z (Qg Z Z Z Z (Qa (Q1 Z Z) Z (Qa (Qd Z) Z (Qg Z Z Z Z (Qg Z Z Z Z (Qg Z Z Z Z (Qa (Q1 Z Z) Z (Qr ⟨Z,Z,Z,Z,Z,Z,Z,Z,congrArg (fun b=>some (Value.bool b)) (show false = (((((((Yr x.cap 1 4) && (Yr x.credits 0 x.cap)) && (Yr x.back 0 x.cap)) && ((IntKind.i64.wrap ((IntKind.i64.wrap (x.credits + x.back)) + ((x.queue.length : Nat) : Int))) == x.cap)) && (Yr x.sent 0 1000000000)) && (x.got == (IntKind.i64.wrap (x.sent - ((x.queue.length : Nat) : Int))))) && (decide (0 ≤ x.got))) by first | (rw [hg1,hg2,hg3,hg4,hg5] <;> rfl) | (simp [hg1,hg2,hg3,hg4,hg5];done) | (simp only [Qq] <;> simp)),trivial⟩ ⟨E,(by omega),h1⟩)))))))))))))))
      ·refine Qg Z Z Z Z (Qg Z Z Z Z ?_)
       refine Yx Z Z Z Z ?_
       refine Qa (Q1 Z Z) Z (Qa (Qd Z) Z (Qg Z Z Z Z (Qg Z Z Z Z (Qg Z Z Z Z (Qg Z Z Z Z (Qg Z Z Z Z (Qg Z Z Z Z (Qg Z Z Z Z (Qg Z Z Z Z (Qg Z Z Z Z (Qa (Q1 Z Z) Z (Qa (Qd Z) Z (Qg Z Z Z Z (Qg Z Z Z Z (Qg Z Z Z Z (Qa (Q1 Z Z) Z (Qr ⟨Z,Z,Z,Z,Z,Z,Z,Z,congrArg (fun b=>some (Value.bool b)) (show false = (((((((Yr x.cap 1 4) && (Yr x.credits 0 x.cap)) && (Yr x.back 0 x.cap)) && ((IntKind.i64.wrap ((IntKind.i64.wrap (x.credits + x.back)) + ((x.queue.length : Nat) : Int))) == x.cap)) && (Yr x.sent 0 1000000000)) && (x.got == (IntKind.i64.wrap (x.sent - ((x.queue.length : Nat) : Int))))) && (decide (0 ≤ x.got))) by first | (rw [hg1,hg2,hg3,hg4] <;> rfl) | (simp [hg1,hg2,hg3,hg4];done) | (simp only [Qq] <;> simp)),trivial⟩ ⟨E,(by omega),h1⟩)))))))))))))))))
     ·refine Qg Z Z Z Z (Qg Z Z Z Z (Qg Z Z Z Z (Qg Z Z Z Z (Qg Z Z Z Z (Qg Z Z Z Z (Qg Z Z Z Z (Qg Z Z Z Z (Qg Z Z Z Z (Qg Z Z Z Z (Qg Z Z Z Z (Qg Z Z Z Z (Qa (Q1 Z Z) Z (Qa (Qd Z) Z (Qg Z Z Z Z (Qg Z Z Z Z ?_)))))))))))))))
      refine Yx Z Z Z Z ?_
      refine Qa (Q1 Z Z) Z (Qa (Qd Z) Z (Qg Z Z Z Z (Qg Z Z Z Z (Qg Z Z Z Z (Qg Z Z Z Z (Qg Z Z Z Z (Qg Z Z Z Z (Qg Z Z Z Z (Qg Z Z Z Z (Qg Z Z Z Z (Qa (Q1 Z Z) Z (Qa (Qd Z) Z (Qg Z Z Z Z (Qg Z Z Z Z (Qg Z Z Z Z (Qa (Q1 Z Z) Z (Qr ⟨Z,Z,Z,Z,Z,Z,Z,Z,congrArg (fun b=>some (Value.bool b)) (show false = (((((((Yr x.cap 1 4) && (Yr x.credits 0 x.cap)) && (Yr x.back 0 x.cap)) && ((IntKind.i64.wrap ((IntKind.i64.wrap (x.credits + x.back)) + ((x.queue.length : Nat) : Int))) == x.cap)) && (Yr x.sent 0 1000000000)) && (x.got == (IntKind.i64.wrap (x.sent - ((x.queue.length : Nat) : Int))))) && (decide (0 ≤ x.got))) by first | (rw [hg1,hg2,hg3] <;> rfl) | (simp [hg1,hg2,hg3];done) | (simp only [Qq] <;> simp)),trivial⟩ ⟨E,(by omega),h1⟩)))))))))))))))))
    ·refine Qg Z Z Z Z (Qg Z Z Z Z (Qg Z Z Z Z (Qg Z Z Z Z ?_)))
     refine Yx Z Z Z Z ?_
     refine Qa (Q1 Z Z) Z (Qa (Qd Z) Z (Qg Z Z Z Z (Qg Z Z Z Z (Qg Z Z Z Z (Qg Z Z Z Z (Qg Z Z Z Z (Qg Z Z Z Z (Qg Z Z Z Z (Qg Z Z Z Z (Qg Z Z Z Z (Qg Z Z Z Z (Qg Z Z Z Z (Qg Z Z Z Z (Qa (Q1 Z Z) Z (Qa (Qd Z) Z (Qg Z Z Z Z (Qg Z Z Z Z (Yx Z Z Z Z (Qa (Q1 Z Z) Z (Qa (Qd Z) Z (Qg Z Z Z Z (Qg Z Z Z Z (Qg Z Z Z Z (Qg Z Z Z Z (Qg Z Z Z Z (Qg Z Z Z Z (Qg Z Z Z Z (Qg Z Z Z Z (Qg Z Z Z Z (Qa (Q1 Z Z) Z (Qa (Qd Z) Z (Qg Z Z Z Z (Qg Z Z Z Z (Qg Z Z Z Z (Qa (Q1 Z Z) Z (Qr ⟨Z,Z,Z,Z,Z,Z,Z,Z,congrArg (fun b=>some (Value.bool b)) (show false = (((((((Yr x.cap 1 4) && (Yr x.credits 0 x.cap)) && (Yr x.back 0 x.cap)) && ((IntKind.i64.wrap ((IntKind.i64.wrap (x.credits + x.back)) + ((x.queue.length : Nat) : Int))) == x.cap)) && (Yr x.sent 0 1000000000)) && (x.got == (IntKind.i64.wrap (x.sent - ((x.queue.length : Nat) : Int))))) && (decide (0 ≤ x.got))) by first | (rw [hg1,hg2] <;> rfl) | (simp [hg1,hg2];done) | (simp only [Qq] <;> simp)),trivial⟩ ⟨E,(by omega),h1⟩))))))))))))))))))))))))))))))))))))
   ·refine Qg Z Z Z Z (Qg Z Z Z Z (Qg Z Z Z Z (Qg Z Z Z Z ?_)))
    refine Yx Z Z Z Z ?_
    refine Qa (Q1 Z Z) Z (Qa (Qd Z) Z (Qg Z Z Z Z (Qg Z Z Z Z (Qg Z Z Z Z (Qg Z Z Z Z (Yx Z Z Z Z (Qa (Q1 Z Z) Z (Qa (Qd Z) Z (Qg Z Z Z Z (Qg Z Z Z Z (Qg Z Z Z Z (Qg Z Z Z Z (Qg Z Z Z Z (Qg Z Z Z Z (Qg Z Z Z Z (Qg Z Z Z Z (Qg Z Z Z Z (Qg Z Z Z Z (Qg Z Z Z Z (Qg Z Z Z Z (Qa (Q1 Z Z) Z (Qa (Qd Z) Z (Qg Z Z Z Z (Qg Z Z Z Z (Yx Z Z Z Z (Qa (Q1 Z Z) Z (Qa (Qd Z) Z (Qg Z Z Z Z (Qg Z Z Z Z (Qg Z Z Z Z (Qg Z Z Z Z (Qg Z Z Z Z (Qg Z Z Z Z (Qg Z Z Z Z (Qg Z Z Z Z (Qg Z Z Z Z (Qa (Q1 Z Z) Z (Qa (Qd Z) Z (Qg Z Z Z Z (Qg Z Z Z Z (Qg Z Z Z Z (Qa (Q1 Z Z) Z (Qr ⟨Z,Z,Z,Z,Z,Z,Z,Z,congrArg (fun b=>some (Value.bool b)) (show false = (((((((Yr x.cap 1 4) && (Yr x.credits 0 x.cap)) && (Yr x.back 0 x.cap)) && ((IntKind.i64.wrap ((IntKind.i64.wrap (x.credits + x.back)) + ((x.queue.length : Nat) : Int))) == x.cap)) && (Yr x.sent 0 1000000000)) && (x.got == (IntKind.i64.wrap (x.sent - ((x.queue.length : Nat) : Int))))) && (decide (0 ≤ x.got))) by first | (rw [hg1] <;> rfl) | (simp [hg1];done) | (simp only [Qq] <;> simp)),trivial⟩ ⟨E,(by omega),h1⟩)))))))))))))))))))))))))))))))))))))))))))
  clear E h1
  rintro w5 ⟨E,z8,h1⟩
  refine Qa (Qf Z) Z (Qc (Qv (Qm Z Z E ?_)))
  exact congrArg Value.bool (lk_s2 hd1.1.1 (Gy hI (by omega))).symm

set_option maxHeartbeats 4000000 in
set_option maxRecDepth 20000 in
theorem s_ClusterOk (cx : List Value) (x : Cluster) (w : World) (hx : Dat.R w 0 w.heap.size cx x) : Ct Tryz.prog 57 [.agg cx.toArray] w (fun v _=>v = .bool (Kf x)):=by
 refine Ym Tryz.func57 Z Tryz.ntmps57 Z ?_
 obtain ⟨o1,o2,o3,o4,o5,rfl,hd1,hd2,hd3,hd4,hd5⟩:=Cluster.op hx
 refine Q8 [(0,.agg [o1,.int .i64 x.graph.workers,.int .i64 x.graph.cap,o2,o3,o4,o5].toArray)] ⟨Z,trivial⟩ ?_
 have E : Ext w w:=Ext.refl w
 refine Qe (Qh [false,true] Z Z (Y1 Z Z (fun b1 w1 e1 s1 h1=>?_)))
 have g_b1 : w.heap.size ≤ b1:=by have:=E.size;omega
 have y_b1:=h1.lt
 replace E:=E.trans e1
 have z1:=e1.size
 refine Qa (Qf Z) Z (Qc (Qe (Qh [true,true,true,true] Z Z (Qa (Qb Ue Z) Z (Qa (Qb Vf Z) Z (Qa (Qk Yt Z (h1.one 1 Z)) Z (Qa (Qf Z) Z (Qc (Qe (Qe (Qh [true,true,false,true,true,true,true,true,true,true,true,true,true,true,true,true,true,true,true,true,true,true,true,true,true,true] Z Z (Qa (Qb Ue Z) Z (Qa (Qy Uq Z (h1.part 0 [o1,.int .i64 x.graph.workers,.int .i64 x.graph.cap] Z) Z) Z (Qw Tryz.call102 Z (s_GraphOk [o1,.int .i64 x.graph.workers,.int .i64 x.graph.cap] x.graph _ (Graph.mkR x.graph (RdD.any (hd1.ext E)))) Z (fun _ w2 e2 hv=>?_)))))))))))))))
 subst hv
 replace E:=E.trans e2;replace h1:=h1.ext e2
 have z2:=e2.size
 refine Qa (Yy Z) Z (Qa (Qd Z) Z (Xf 21 [(0,.agg [o1,.int .i64 x.graph.workers,.int .i64 x.graph.cap,o2,o3,o4,o5].toArray),(1,.pointer (some ⟨b1,0,none⟩)),(2,.bool false),(3,.int .i64 x.graph.workers),(9,.pointer (some ⟨b1,0,none⟩)),(10,.pointer (some ⟨b1,1,none⟩)),(11,.int .i64 x.graph.workers),(37,.bool ((((!(Xb x.graph)) || (((x.workers.length : Nat) : Int) != x.graph.workers)) || (((x.links.length : Nat) : Int) != (IntKind.i64.wrap (x.graph.workers * x.graph.workers)))) || (((x.tokens.length : Nat) : Int) != 4)))] (fun w'=>w2 = w') ?_ ?_))
 ·refine Y4 (gd:=16) Z Z (fun hg1=>?_) (fun hg1=>?_)
  ·refine Qg Z Z Z Z (Qg Z Z Z Z (Qg Z Z Z Z (Qg Z Z Z Z (Qg Z Z Z Z (Qa (Qx Z Z) Z (Qa (Qd Z) Z (Qg Z Z Z Z (Qg Z Z Z Z (Qg Z Z Z Z (Qg Z Z Z Z (Qg Z Z Z Z (Qg Z Z Z Z (Qg Z Z Z Z (Qa (Qx Z Z) Z (Qa (Qd Z) Z (Qg Z Z Z Z (Qg Z Z Z Z (Qg Z Z Z Z (Qg Z Z Z Z (Qa (Qx Z Z) Z (Qr ⟨Z,Z,Z,Z,Z,Z,Z,congrArg (fun b=>some (Value.bool b)) (show true = ((((!(Xb x.graph)) || (((x.workers.length : Nat) : Int) != x.graph.workers)) || (((x.links.length : Nat) : Int) != (IntKind.i64.wrap (x.graph.workers * x.graph.workers)))) || (((x.tokens.length : Nat) : Int) != 4)) by first | (rw [hg1] <;> rfl) | (simp [hg1];done) | (simp only [Qq] <;> simp)),trivial⟩ Z)))))))))))))))))))))
  ·refine Qn Z Z (Qb Xn Z) Z (Qn Z Z (Qk Uy Z (h1.one 3 Z)) Z (Qn Z Z (Yc Tryz.underlying35 Z (hd2.ext E).len) Z (Qn Z Z (Qd Z) Z (Qn Z Z (Yu Z Z) Z (Qa (Q1 Z Z) Z (Qa (Qd Z) Z ?_))))))
   refine Y4 (gd:=23) Z Z (fun hg2=>?_) (fun hg2=>?_)
   ·refine Qg Z Z Z Z (Qg Z Z Z Z (Qg Z Z Z Z (Qg Z Z Z Z (Qg Z Z Z Z (Qg Z Z Z Z (Qg Z Z Z Z (Qa (Qx Z Z) Z (Qa (Qd Z) Z (Qg Z Z Z Z (Qg Z Z Z Z (Qg Z Z Z Z (Qg Z Z Z Z (Qa (Qx Z Z) Z (Qr ⟨Z,Z,Z,Z,Z,Z,Z,congrArg (fun b=>some (Value.bool b)) (show true = ((((!(Xb x.graph)) || (((x.workers.length : Nat) : Int) != x.graph.workers)) || (((x.links.length : Nat) : Int) != (IntKind.i64.wrap (x.graph.workers * x.graph.workers)))) || (((x.tokens.length : Nat) : Int) != 4)) by first | (rw [hg1,hg2] <;> rfl) | (simp [hg1,hg2];done) | (simp only [Qq] <;> simp)),trivial⟩ Z))))))))))))))
   ·refine Qn Z Z (Qb Ko Z) Z (Qn Z Z (Qk Gh Z (h1.one 4 Z)) Z (Qn Z Z (Yc Tryz.underlying36 Z (hd3.ext E).len) Z (Qn Z Z (Qd Z) Z (Qn Z Z (Qd Z) Z (Qn Z Z (R_mul Z Z Z) Z (Qn Z Z (Yu Z Z) Z (Qa (Q1 Z Z) Z (Qa (Qd Z) Z ?_))))))))
    refine Y4 (gd:=32) Z Z (fun hg3=>?_) (fun hg3=>?_)
    ·refine Qg Z Z Z Z (Qg Z Z Z Z (Qg Z Z Z Z (Qg Z Z Z Z (Qa (Qx Z Z) Z (Qr ⟨Z,Z,Z,Z,Z,Z,Z,congrArg (fun b=>some (Value.bool b)) (show true = ((((!(Xb x.graph)) || (((x.workers.length : Nat) : Int) != x.graph.workers)) || (((x.links.length : Nat) : Int) != (IntKind.i64.wrap (x.graph.workers * x.graph.workers)))) || (((x.tokens.length : Nat) : Int) != 4)) by first | (rw [hg1,hg2,hg3] <;> rfl) | (simp [hg1,hg2,hg3];done) | (simp only [Qq] <;> simp)),trivial⟩ Z)))))
    ·refine Qn Z Z (Qb Ve Z) Z (Qn Z Z (Qk Co Z (h1.one 5 Z)) Z (Qn Z Z (Yc Tryz.underlying37 Z (hd4.ext E).len) Z (Qn Z Z (Yu Z Z) Z (Qa (Q1 Z Z) Z (Qr ⟨Z,Z,Z,Z,Z,Z,Z,congrArg (fun b=>some (Value.bool b)) (show (((x.tokens.length : Nat) : Int) != 4) = ((((!(Xb x.graph)) || (((x.workers.length : Nat) : Int) != x.graph.workers)) || (((x.links.length : Nat) : Int) != (IntKind.i64.wrap (x.graph.workers * x.graph.workers)))) || (((x.tokens.length : Nat) : Int) != 4)) by first | (rw [hg1,hg2,hg3] <;> rfl) | (simp [hg1,hg2,hg3];done) | (simp only [Qq] <;> simp)),trivial⟩ Z)))))
 rintro _ rfl
 refine Qc (Qt Z (fun hc1=>?_) (fun hc1=>?_))
 ·refine Qe (Qh [true] Z Z (Qa (Qf Z) Z (Qc (Qv (Qm Z Z E ?_)))))
  exact cl_0 hc1
 ·have hgw:=cl_g hc1
  have hlw:=cl_w hc1
  refine Qo (Qe (Qe (Qh [true] Z Z (Qa (Qf Z) Z (Qc (Q0 (Yp (fun (k : Nat)=>[(1,.pointer (some ⟨b1,0,none⟩)),(2,.bool false),(3,.int .i64 x.graph.workers),(4,.int .i64 ((k : Nat) : Int))]) (fun (k : Nat) w'=>Ext w w' ∧ w2.heap.size ≤ w'.heap.size ∧ Blk w' b1 ([o1,.int .i64 x.graph.workers,.int .i64 x.graph.cap,o2,o3,o4,o5]) ∧ k ≤ x.workers.length ∧ (x.workers.take k).all (Xd x.graph) = true) (fun (k : Nat)=>x.workers.length - k) 0 ⟨Z,Z,Z,Z,trivial⟩ ⟨E,Nat.le_refl _,h1,Nat.zero_le _,Z⟩ ?_)))))))
  clear E h1
  rintro k w4 ⟨E,z3,h1,hk,hI1⟩
  have hmw:=hd2.1.1
  unfold maxLen at hmw
  refine Qe (Qe (Qh [true,true,true] Z Z (Qa (Qd Z) Z (Qa (Qd Z) Z (Qa (Yi Z Z) Z (Qc (Qt Z (fun hc2=>?_) (fun hc2=>?_))))))))
  ·have hlt:=of_decide_eq_true hc2
   refine Qo (Qe (Q0 (Qe (Xx Xs [(0,true),(1,true),(2,true),(3,true),(4,true),(5,true),(6,true),(7,false),(8,true)] (by decide +kernel) Z (fun w5 e3=>?_)))))
   replace E:=E.trans e3;replace h1:=h1.ext e3
   have z4:=e3.size
   refine Qa (Qb Ue Z) Z (Qa (Qy Uq Z (h1.part 0 [o1,.int .i64 x.graph.workers,.int .i64 x.graph.cap] Z) Z) Z (Qa (Qb Xn Z) Z (Qa (Qk Uy Z (h1.one 3 Z)) Z (Qa (Qd Z) Z ?_))))
   have hi1 : k < x.workers.length:=(by first | assumption | omega | (simp only [List.length_set];first | assumption | omega) | (simp only [List.getElem_set_self,List.length_set];first | assumption | omega) | (simp only [Yn,Yh,List.length_set];first | assumption | omega))
   obtain ⟨_,hr1,ha1⟩:=RdD.get hd2 hi1
   obtain ⟨o6,o7,o8,o9,o10,o11,o12,o13,rfl,hd6,hd7,hd8,hd9,hd10,hd11,hd12,hd13⟩:=Worker.op hr1
   replace ha1 : At w (Y6 o2) (Y8 o2 + k * 8) [o6,o7,o8,o9,o10,o11,o12,o13]:=ha1
   refine Qa (Qz (i:=k) K5 Z Z (hd2.ext E).1 hi1) Z (Qa (Qy X8 Z (ha1.ext E) Z) Z (Qw Tryz.call103 Z (s_WorkerOk [o1,.int .i64 x.graph.workers,.int .i64 x.graph.cap] x.graph [o6,o7,o8,o9,o10,o11,o12,o13] (x.workers[k]'hi1) _ (Graph.mkR x.graph (RdD.any (hd1.ext E))) (Worker.mkR (x.workers[k]'hi1) (RdD.any (hd6.ext E)) (RdD.any (hd7.ext E)) (RdD.any (hd8.ext E)) (RdD.any (hd9.ext E)) (RdD.any (hd10.ext E)) (RdD.any (hd11.ext E)) (RdD.any (hd12.ext E)) (RdD.any (hd13.ext E)))) Z (fun _ w6 e4 hv=>?_)))
   subst hv
   replace E:=E.trans e4;replace h1:=h1.ext e4
   have z5:=e4.size
   refine Qa (Yy Z) Z (Qc (Qt Z (fun hc3=>?_) (fun hc3=>?_)))
   ·refine Qe (Qh [true] Z Z (Qa (Qf Z) Z (Qc (Qv (Q2 (Yv (Q2 (Qm Z Z E ?_))))))))
    exact cl_1 (by assumption) (by simpa using hc3)
   ·refine Qo (Q6 (Y0 (Qh [true,true,true] Z Z (Qa (Qd Z) Z (Qa (Ye Z Z (Yg (by unfold maxLen;omega))) Z (Qa (Qf Z) Z (Qc (Q6 (Yk (k + 1) (by omega) ⟨Z,Z,Z,Z,trivial⟩ ⟨E,(by omega),h1,(by omega),Kh hI1 (by assumption) (by simpa using hc3)⟩)))))))))
  ·have hge:=of_decide_eq_false hc2
   refine Yq (Q5 (Q3 ?_))
   refine Qe (Qe (Qh [true] Z Z (Qa (Qf Z) Z (Qc (Q0 (Yp (fun (k : Nat)=>[(1,.pointer (some ⟨b1,0,none⟩)),(2,.bool false),(3,.int .i64 x.graph.workers),(5,.int .i64 ((k : Nat) : Int))]) (fun (k : Nat) w'=>Ext w w' ∧ w4.heap.size ≤ w'.heap.size ∧ Blk w' b1 ([o1,.int .i64 x.graph.workers,.int .i64 x.graph.cap,o2,o3,o4,o5]) ∧ k ≤ x.links.length ∧ Ho k (fun j=>!A3 x.graph j (List.getD x.links j default)) = true) (fun (k : Nat)=>x.links.length - k) 0 ⟨Z,Z,Z,Z,trivial⟩ ⟨E,Nat.le_refl _,h1,Nat.zero_le _,Z⟩ ?_))))))
   clear E h1
   rintro k w7 ⟨E,z6,h1,hk,hI2⟩
   have hml:=hd3.1.1
   unfold maxLen at hml
   refine Qe (Qe (Qh [true,true,true,true,true] Z Z (Qa (Qd Z) Z (Qa (Qb Ko Z) Z (Qa (Qk Gh Z (h1.one 4 Z)) Z (Qa (Yc Tryz.underlying36 Z (hd3.ext E).len) Z (Qa (Yi Z Z) Z (Qc (Qt Z (fun hc4=>?_) (fun hc4=>?_))))))))))
   ·have hc4n : k < x.links.length:=by first | (have h:=of_decide_eq_true hc4;omega) | (have h:=hc4;simp at h;omega)
    refine Qo (Qe (Q0 (Qe (Qh [true,true,true,true,true,false,false] Z Z (Qa (Qb Ko Z) Z (Qa (Qk Gh Z (h1.one 4 Z)) Z (Qa (Qd Z) Z ?_)))))))
    have hi2 : k < x.links.length:=(by first | assumption | omega | (simp only [List.length_set];first | assumption | omega) | (simp only [List.getElem_set_self,List.length_set];first | assumption | omega) | (simp only [Yn,Yh,List.length_set];first | assumption | omega))
    obtain ⟨_,hr2,ha2⟩:=RdD.get hd3 hi2
    obtain ⟨o14,rfl,hd14⟩:=Link.op hr2
    replace ha2 : At w (Y6 o3) (Y8 o3 + k * 6) [.int .i64 ((x.links[k]'hi2).cap),o14,.int .i64 ((x.links[k]'hi2).credits),.int .i64 ((x.links[k]'hi2).back),.int .i64 ((x.links[k]'hi2).sent),.int .i64 ((x.links[k]'hi2).got)]:=ha2
    refine Qa (Qz (i:=k) Vl Z Z (hd3.ext E).1 hi2) Z (Qa (Qy X4 Z (ha2.ext E) Z) Z (Yo X4 Z (fun b2 w8 e5 s2 h2=>?_)))
    have g_b2 : w.heap.size ≤ b2:=by have:=E.size;omega
    have y_b2:=h2.lt
    replace E:=E.trans e5;replace h1:=h1.ext e5
    have z7:=e5.size
    refine Q4 (cs':=[.int .i64 ((x.links[k]'hi2).cap),o14,.int .i64 ((x.links[k]'hi2).credits),.int .i64 ((x.links[k]'hi2).back),.int .i64 ((x.links[k]'hi2).sent),.int .i64 ((x.links[k]'hi2).got)]) X4 Z Z Z (Qj Z (Qj (RdD.one (hd14.ext E)) (Qj Z (Qj Z (Qj Z (Qj Z Z)))))) h2 (Nat.le_of_ble_eq_true Z) Z (fun w9 m1 h2'=>?_)
    replace h2:=h2'
    replace E:=E.step m1 (fun g hg=>by cases hg;omega);replace h1:=h1.mod m1 (fun g hg=>by cases hg;omega)
    have z8:=m1.size
    refine Qc (Qe (Xx Xs [(0,true),(1,false),(2,true),(3,true),(4,true),(5,true),(6,true),(7,true),(8,true),(9,true),(10,true),(11,true),(12,true),(13,true),(14,true),(15,true),(16,false),(17,true),(18,true),(19,true),(20,true),(21,true),(22,true),(23,true),(24,true),(25,true),(26,true),(27,true),(28,true),(29,true),(30,true),(31,true),(32,true),(33,true)] (by decide +kernel) Z (fun w10 e6=>?_)))
    replace E:=E.trans e6;replace h1:=h1.ext e6;replace h2:=h2.ext e6
    have z9:=e6.size
    refine Qa (Qy X4 Z h2.at Z) Z (Qw Tryz.call104 Z (s_LinkOk [.int .i64 ((x.links[k]'hi2).cap),o14,.int .i64 ((x.links[k]'hi2).credits),.int .i64 ((x.links[k]'hi2).back),.int .i64 ((x.links[k]'hi2).sent),.int .i64 ((x.links[k]'hi2).got)] (x.links[k]'hi2) _ (Link.mkR (x.links[k]'hi2) (RdD.any (hd14.ext E)))) Z (fun _ w11 e7 hv=>?_))
    subst hv
    replace E:=E.trans e7;replace h1:=h1.ext e7;replace h2:=h2.ext e7
    have z10:=e7.size
    refine Qa (Yy Z) Z (Qa (Qd Z) Z (Xf 30 [(1,.pointer (some ⟨b1,0,none⟩)),(2,.bool false),(3,.int .i64 x.graph.workers),(5,.int .i64 ((k : Nat) : Int)),(6,.pointer (some ⟨b2,0,none⟩)),(52,.int .i64 ((k : Nat) : Int)),(53,.pointer (some ⟨b1,4,none⟩)),(54,o3),(55,.int .i64 ((x.links.length : Nat) : Int)),(56,.bool (decide (((k : Nat) : Int) < ((x.links.length : Nat) : Int)))),(59,.pointer (some ⟨b1,4,none⟩)),(60,o3),(61,.int .i64 ((k : Nat) : Int)),(62,.pointer (some ⟨Y6 o3,Y8 o3 + k * 6,none⟩)),(63,.agg [.int .i64 ((x.links[k]'hi2).cap),o14,.int .i64 ((x.links[k]'hi2).credits),.int .i64 ((x.links[k]'hi2).back),.int .i64 ((x.links[k]'hi2).sent),.int .i64 ((x.links[k]'hi2).got)].toArray),(97,.bool ((((!(Xa (x.links[k]'hi2))) || (((x.links[k]'hi2).cap) != x.graph.cap)) || (!(((x.links[k]'hi2).queue).all (Xo x.graph)))) || (((IntKind.i64.wrap (Int.tdiv ((k : Nat) : Int) x.graph.workers)) == (Int.tmod ((k : Nat) : Int) x.graph.workers)) && (decide (0 < ((((x.links[k]'hi2).queue).length : Nat) : Int))))))] (fun w'=>Ext w w' ∧ w11.heap.size ≤ w'.heap.size ∧ Blk w' b1 ([o1,.int .i64 x.graph.workers,.int .i64 x.graph.cap,o2,o3,o4,o5]) ∧ Blk w' b2 [.int .i64 ((x.links[k]'hi2).cap),o14,.int .i64 ((x.links[k]'hi2).credits),.int .i64 ((x.links[k]'hi2).back),.int .i64 ((x.links[k]'hi2).sent),.int .i64 ((x.links[k]'hi2).got)]) ?_ ?_))
    ·refine Y4 (gd:=67) Z Z (fun hg4=>?_) (fun hg4=>?_)
     ·refine Qg Z Z Z Z (Qg Z Z Z Z (Qg Z Z Z Z (Qg Z Z Z Z (Qg Z Z Z Z (Qg Z Z Z Z (Qa (Qx Z Z) Z (Qa (Qd Z) Z (Qg Z Z Z Z (Qg Z Z Z Z (Qg Z Z Z Z (Qg Z Z Z Z ?_)))))))))))
      refine Yx Z Z Z Z ?_
      refine Qg Z Z Z Z (Qa (Qx Z Z) Z (Qa (Qd Z) Z (Qg Z Z Z Z (Qg Z Z Z Z (Qg Z Z Z Z (Qg Z Z Z Z (Qg Z Z Z Z (Qg Z Z Z Z (Qg Z Z Z Z (Qg Z Z Z Z (Ya Z Z Z (Ya Z Z Z (Ya Z Z Z (Ya Z Z Z (Qg Z Z Z Z (Qa (Qx Z Z) Z (Qr ⟨Z,Z,Z,Z,Z,Z,Z,Z,Z,Z,Z,Z,Z,Z,Z,congrArg (fun b=>some (Value.bool b)) (show true = ((((!(Xa (x.links[k]'hi2))) || (((x.links[k]'hi2).cap) != x.graph.cap)) || (!(((x.links[k]'hi2).queue).all (Xo x.graph)))) || (((IntKind.i64.wrap (Int.tdiv ((k : Nat) : Int) x.graph.workers)) == (Int.tmod ((k : Nat) : Int) x.graph.workers)) && (decide (0 < ((((x.links[k]'hi2).queue).length : Nat) : Int))))) by first | (rw [hg4] <;> rfl) | (simp [hg4];done) | (simp only [Qq] <;> simp)),trivial⟩ ⟨E,(by omega),h1,h2⟩)))))))))))))))))
     ·refine Qn Z Z (Qb Vo Z) Z (Qn Z Z (Qk Yt Z (h2.one 0 Z)) Z (Qn Z Z (Qb Ue Z) Z (Qn Z Z (Qb T8 Z) Z (Qn Z Z (Qk Yt Z (h1.one 2 Z)) Z (Qn Z Z (Yu Z Z) Z (Qa (Q1 Z Z) Z (Qa (Qd Z) Z ?_)))))))
      refine Y4 (gd:=75) Z Z (fun hg5=>?_) (fun hg5=>?_)
      ·refine Qg Z Z Z Z (Qg Z Z Z Z (Qg Z Z Z Z (Qg Z Z Z Z ?_)))
       refine Yx Z Z Z Z ?_
       refine Qg Z Z Z Z (Qa (Qx Z Z) Z (Qa (Qd Z) Z (Qg Z Z Z Z (Qg Z Z Z Z (Qg Z Z Z Z (Qg Z Z Z Z (Qg Z Z Z Z (Qg Z Z Z Z (Qg Z Z Z Z (Qg Z Z Z Z (Ya Z Z Z (Ya Z Z Z (Ya Z Z Z (Ya Z Z Z (Qg Z Z Z Z (Qa (Qx Z Z) Z (Qr ⟨Z,Z,Z,Z,Z,Z,Z,Z,Z,Z,Z,Z,Z,Z,Z,congrArg (fun b=>some (Value.bool b)) (show true = ((((!(Xa (x.links[k]'hi2))) || (((x.links[k]'hi2).cap) != x.graph.cap)) || (!(((x.links[k]'hi2).queue).all (Xo x.graph)))) || (((IntKind.i64.wrap (Int.tdiv ((k : Nat) : Int) x.graph.workers)) == (Int.tmod ((k : Nat) : Int) x.graph.workers)) && (decide (0 < ((((x.links[k]'hi2).queue).length : Nat) : Int))))) by first | (rw [hg4,hg5] <;> rfl) | (simp [hg4,hg5];done) | (simp only [Qq] <;> simp)),trivial⟩ ⟨E,(by omega),h1,h2⟩)))))))))))))))))
      ·refine Qn Z Z (Qb Ue Z) Z (Qn Z Z (Qy Uq Z (h1.part 0 [o1,.int .i64 x.graph.workers,.int .i64 x.graph.cap] Z) Z) Z (Qn Z Z (Qb Kv Z) Z (Qn Z Z (Qk Xq Z (h2.one 1 Z)) Z ?_)))
       refine X2 Z Z ?_
       refine Qw Tryz.call105 Z (s_l12Records [o1,.int .i64 x.graph.workers,.int .i64 x.graph.cap] x.graph o14 ((x.links[k]'hi2).queue) _ (Graph.mkR x.graph (RdD.any (hd1.ext E))) (hd14.rd.ext E)) Z (fun _ w13 e8 hv=>?_)
       subst hv
       replace E:=E.trans e8;replace h1:=h1.ext e8;replace h2:=h2.ext e8
       have z11:=e8.size
       refine Qn Z Z (Yy Z) Z (Qa (Q1 Z Z) Z (Qa (Qd Z) Z ?_))
       refine Y4 (gd:=83) Z Z (fun hg6=>?_) (fun hg6=>?_)
       ·refine Qg Z Z Z Z (Qg Z Z Z Z (Qg Z Z Z Z (Qg Z Z Z Z (Qg Z Z Z Z (Qg Z Z Z Z (Qg Z Z Z Z (Qg Z Z Z Z (Ya Z Z Z (Ya Z Z Z (Ya Z Z Z (Ya Z Z Z (Qg Z Z Z Z (Qa (Qx Z Z) Z (Qr ⟨Z,Z,Z,Z,Z,Z,Z,Z,Z,Z,Z,Z,Z,Z,Z,congrArg (fun b=>some (Value.bool b)) (show true = ((((!(Xa (x.links[k]'hi2))) || (((x.links[k]'hi2).cap) != x.graph.cap)) || (!(((x.links[k]'hi2).queue).all (Xo x.graph)))) || (((IntKind.i64.wrap (Int.tdiv ((k : Nat) : Int) x.graph.workers)) == (Int.tmod ((k : Nat) : Int) x.graph.workers)) && (decide (0 < ((((x.links[k]'hi2).queue).length : Nat) : Int))))) by first | (rw [hg4,hg5,hg6] <;> rfl) | (simp [hg4,hg5,hg6];done) | (simp only [Qq] <;> simp)),trivial⟩ ⟨E,(by omega),h1,h2⟩))))))))))))))
       ·refine Qn Z Z (Qd Z) Z (Qn Z Z (Qd Z) Z (Qn Z Z (R_quo Z Z (by omega) Z) Z (Qn Z Z (Qd Z) Z (Qn Z Z (Qd Z) Z (Qn Z Z (Gm Z Z (by omega) Z) Z (Qn Z Z (Xm Z Z) Z (Qn Z Z (Qd Z) Z ?_)))))))
        refine Y4 (gd:=91) Z Z (fun hg7=>?_) (fun hg7=>?_)
        ·refine Qn Z Z (Qb Kv Z) Z (Qn Z Z (Qk Xq Z (h2.one 1 Z)) Z (Qn Z Z (Yc Tryz.underlying66 Z (hd14.ext E).len) Z (Qn Z Z (G8 Z Z) Z (Qn Z Z (Qx Z Z) Z (Qa (Q1 Z Z) Z (Qr ⟨Z,Z,Z,Z,Z,Z,Z,Z,Z,Z,Z,Z,Z,Z,Z,congrArg (fun b=>some (Value.bool b)) (show (decide (0 < ((((x.links[k]'hi2).queue).length : Nat) : Int))) = ((((!(Xa (x.links[k]'hi2))) || (((x.links[k]'hi2).cap) != x.graph.cap)) || (!(((x.links[k]'hi2).queue).all (Xo x.graph)))) || (((IntKind.i64.wrap (Int.tdiv ((k : Nat) : Int) x.graph.workers)) == (Int.tmod ((k : Nat) : Int) x.graph.workers)) && (decide (0 < ((((x.links[k]'hi2).queue).length : Nat) : Int))))) by first | (rw [hg4,hg5,hg6,hg7] <;> rfl) | (simp [hg4,hg5,hg6,hg7];done) | (simp only [Qq] <;> simp)),trivial⟩ ⟨E,(by omega),h1,h2⟩))))))
        ·refine Qg Z Z Z Z (Qg Z Z Z Z (Qg Z Z Z Z (Qg Z Z Z Z (Qn Z Z (Q1 Z Z) Z (Qa (Q1 Z Z) Z (Qr ⟨Z,Z,Z,Z,Z,Z,Z,Z,Z,Z,Z,Z,Z,Z,Z,congrArg (fun b=>some (Value.bool b)) (show false = ((((!(Xa (x.links[k]'hi2))) || (((x.links[k]'hi2).cap) != x.graph.cap)) || (!(((x.links[k]'hi2).queue).all (Xo x.graph)))) || (((IntKind.i64.wrap (Int.tdiv ((k : Nat) : Int) x.graph.workers)) == (Int.tmod ((k : Nat) : Int) x.graph.workers)) && (decide (0 < ((((x.links[k]'hi2).queue).length : Nat) : Int))))) by first | (rw [hg4,hg5,hg6,hg7] <;> rfl) | (simp [hg4,hg5,hg6,hg7];done) | (simp only [Qq] <;> simp)),trivial⟩ ⟨E,(by omega),h1,h2⟩))))))
    clear E h1 h2
    rintro w12 ⟨E,z12,h1,h2⟩
    refine Qc (Qt Z (fun hc5=>?_) (fun hc5=>?_))
    ·refine Qe (Qh [true] Z Z (Qa (Qf Z) Z (Qc (Qv (Q2 (Yv (Q2 (Qm Z Z E ?_))))))))
     exact cl_2 (by assumption) hc5
    ·refine Qo (Q6 (Y0 (Qh [true,true,true] Z Z (Qa (Qd Z) Z (Qa (Ye Z Z (Yg (by unfold maxLen;omega))) Z (Qa (Qf Z) Z (Qc (Q6 (Yk (k + 1) (by omega) ⟨Z,Z,Z,Z,trivial⟩ ⟨E,(by omega),h1,(by omega),Ax hI2 (lk_at (by assumption) hc5)⟩)))))))))
   ·have hc4n : ¬ k < x.links.length:=by first | (have h:=of_decide_eq_false hc4;omega) | (have h:=hc4;simp at h;omega)
    refine Yq (Q5 (Q3 ?_))
    refine Qe (Qe (Qh [true] Z Z (Qa (Qf Z) Z (Qc (Q0 (Yp (fun (k : Nat)=>[(1,.pointer (some ⟨b1,0,none⟩)),(2,.bool false),(3,.int .i64 x.graph.workers),(7,.int .i64 ((k : Nat) : Int))]) (fun (k : Nat) w'=>Ext w w' ∧ w7.heap.size ≤ w'.heap.size ∧ Blk w' b1 ([o1,.int .i64 x.graph.workers,.int .i64 x.graph.cap,o2,o3,o4,o5]) ∧ k ≤ x.tokens.length ∧ (x.tokens.take k).all (fun t=>!tkBad x.graph t) = true) (fun (k : Nat)=>x.tokens.length - k) 0 ⟨Z,Z,Z,Z,trivial⟩ ⟨E,Nat.le_refl _,h1,Nat.zero_le _,Z⟩ ?_))))))
    clear E h1
    rintro k w14 ⟨E,z13,h1,hk,hI3⟩
    have hmt:=hd4.1.1
    unfold maxLen at hmt
    refine Qe (Qe (Qh [true,true,true,true,true] Z Z (Qa (Qd Z) Z (Qa (Qb Ve Z) Z (Qa (Qk Co Z (h1.one 5 Z)) Z (Qa (Yc Tryz.underlying37 Z (hd4.ext E).len) Z (Qa (Yi Z Z) Z (Qc (Qt Z (fun hc6=>?_) (fun hc6=>?_))))))))))
    ·have hc6n : k < x.tokens.length:=by first | (have h:=of_decide_eq_true hc6;omega) | (have h:=hc6;simp at h;omega)
     refine Qo (Qe (Q0 (Qe (Qh [true,true,true,true,true,true,true,true,false,true,true,true,true,true,true,true,true,true,true,true,true,true,true,true,true,true,true,true,true,true,true,true,true,true,true,false,true,true] Z Z (Qa (Qb Ve Z) Z (Qa (Qk Co Z (h1.one 5 Z)) Z (Qa (Qd Z) Z ?_)))))))
     have hi3 : k < x.tokens.length:=(by first | assumption | omega | (simp only [List.length_set];first | assumption | omega) | (simp only [List.getElem_set_self,List.length_set];first | assumption | omega) | (simp only [Yn,Yh,List.length_set];first | assumption | omega))
     refine Qa (Qz (i:=k) Gz Z Z (hd4.rd.ext E) hi3) Z (Qa (Qs Gx Z) Z (Qa (Qk Yt Z (((hd4.rd.ext E).get hi3).one 1 Z)) Z (Qa (Qd Z) Z (Qa (K6 Z Z Z) Z (Qw Tryz.call106 Z (s_l01In ((x.tokens[k]'hi3).place) 0 (IntKind.i64.wrap (x.graph.workers - 1)) _ ) Z (fun _ w15 e9 hv=>?_))))))
     subst hv
     replace E:=E.trans e9;replace h1:=h1.ext e9
     have z14:=e9.size
     refine Qa (Yy Z) Z (Qa (Qd Z) Z (Xf 27 [(1,.pointer (some ⟨b1,0,none⟩)),(2,.bool false),(3,.int .i64 x.graph.workers),(7,.int .i64 ((k : Nat) : Int)),(98,.int .i64 ((k : Nat) : Int)),(99,.pointer (some ⟨b1,5,none⟩)),(100,o4),(101,.int .i64 ((x.tokens.length : Nat) : Int)),(102,.bool (decide (((k : Nat) : Int) < ((x.tokens.length : Nat) : Int)))),(142,.bool (((!(Yr ((x.tokens[k]'hi3).place) 0 (IntKind.i64.wrap (x.graph.workers - 1)))) || ((!((x.tokens[k]'hi3).going)) && (((x.tokens[k]'hi3).place) != 0))) || (!(Yr ((x.tokens[k]'hi3).sum) (-1000000) 1000000))))] (fun w'=>Ext w w' ∧ w15.heap.size ≤ w'.heap.size ∧ Blk w' b1 ([o1,.int .i64 x.graph.workers,.int .i64 x.graph.cap,o2,o3,o4,o5])) ?_ ?_))
     ·refine Y4 (gd:=115) Z Z (fun hg8=>?_) (fun hg8=>?_)
      ·refine Qg Z Z Z Z (Qg Z Z Z Z (Qg Z Z Z Z (Qg Z Z Z Z (Qg Z Z Z Z (Qg Z Z Z Z (Qg Z Z Z Z (Qg Z Z Z Z (Ya Z Z Z (Ya Z Z Z (Ya Z Z Z (Ya Z Z Z (Ya Z Z Z (Ya Z Z Z (Ya Z Z Z (Qg Z Z Z Z (Qa (Qx Z Z) Z (Qa (Qd Z) Z (Qg Z Z Z Z (Qg Z Z Z Z (Qg Z Z Z Z (Qg Z Z Z Z (Qg Z Z Z Z (Qg Z Z Z Z ?_)))))))))))))))))))))))
       refine Yx Z Z Z Z ?_
       refine Qg Z Z Z Z (Qa (Qx Z Z) Z (Qr ⟨Z,Z,Z,Z,Z,Z,Z,Z,Z,congrArg (fun b=>some (Value.bool b)) (show true = (((!(Yr ((x.tokens[k]'hi3).place) 0 (IntKind.i64.wrap (x.graph.workers - 1)))) || ((!((x.tokens[k]'hi3).going)) && (((x.tokens[k]'hi3).place) != 0))) || (!(Yr ((x.tokens[k]'hi3).sum) (-1000000) 1000000))) by first | (rw [hg8] <;> rfl) | (simp [hg8];done) | (simp only [Qq] <;> simp)),trivial⟩ ⟨E,(by omega),h1⟩))
      ·refine Qn Z Z (Qb Ve Z) Z (Qn Z Z (Qk Co Z (h1.one 5 Z)) Z (Qn Z Z (Qd Z) Z (Qn Z Z (Qz (i:=k) Gz Z Z (hd4.rd.ext E) hi3) Z (Qn Z Z (Qs Tl Z) Z (Qn Z Z (Qk Hs Z (((hd4.rd.ext E).get hi3).one 0 Z)) Z (Qn Z Z (Yy Z) Z (Qn Z Z (Qd Z) Z ?_)))))))
       refine Y4 (gd:=123) Z Z (fun hg9=>?_) (fun hg9=>?_)
       ·refine Qn Z Z (Qb Ve Z) Z (Qn Z Z (Qk Co Z (h1.one 5 Z)) Z (Qn Z Z (Qd Z) Z (Qn Z Z (Qz (i:=k) Gz Z Z (hd4.rd.ext E) hi3) Z (Qn Z Z (Qs Gx Z) Z (Qn Z Z (Qk Yt Z (((hd4.rd.ext E).get hi3).one 1 Z)) Z (Qn Z Z (Yu Z Z) Z (Qn Z Z (Qx Z Z) Z (Qa (Q1 Z Z) Z (Qa (Qd Z) Z ?_)))))))))
        refine Y4 (gd:=133) Z Z (fun hg10=>?_) (fun hg10=>?_)
        ·refine Qg Z Z Z Z (Qg Z Z Z Z (Qg Z Z Z Z (Qg Z Z Z Z (Qg Z Z Z Z (Qg Z Z Z Z ?_)))))
         refine Yx Z Z Z Z ?_
         refine Qg Z Z Z Z (Qa (Qx Z Z) Z (Qr ⟨Z,Z,Z,Z,Z,Z,Z,Z,Z,congrArg (fun b=>some (Value.bool b)) (show true = (((!(Yr ((x.tokens[k]'hi3).place) 0 (IntKind.i64.wrap (x.graph.workers - 1)))) || ((!((x.tokens[k]'hi3).going)) && (((x.tokens[k]'hi3).place) != 0))) || (!(Yr ((x.tokens[k]'hi3).sum) (-1000000) 1000000))) by first | (rw [hg8,hg9,hg10] <;> rfl) | (simp [hg8,hg9,hg10];done) | (simp only [Qq] <;> simp)),trivial⟩ ⟨E,(by omega),h1⟩))
        ·refine Qn Z Z (Qb Ve Z) Z (Qn Z Z (Qk Co Z (h1.one 5 Z)) Z (Qn Z Z (Qd Z) Z (Qn Z Z (Qz (i:=k) Gz Z Z (hd4.rd.ext E) hi3) Z (Qn Z Z (Qs Gw Z) Z (Qn Z Z (Qk Yt Z (((hd4.rd.ext E).get hi3).one 2 Z)) Z ?_)))))
         refine X2 Z Z ?_
         refine Qw Tryz.call106 Z (s_l01In ((x.tokens[k]'hi3).sum) (-1000000) 1000000 _ ) Z (fun _ w17 e10 hv=>?_)
         subst hv
         replace E:=E.trans e10;replace h1:=h1.ext e10
         have z15:=e10.size
         refine Qn Z Z (Yy Z) Z (Qa (Q1 Z Z) Z (Qr ⟨Z,Z,Z,Z,Z,Z,Z,Z,Z,congrArg (fun b=>some (Value.bool b)) (show (!(Yr ((x.tokens[k]'hi3).sum) (-1000000) 1000000)) = (((!(Yr ((x.tokens[k]'hi3).place) 0 (IntKind.i64.wrap (x.graph.workers - 1)))) || ((!((x.tokens[k]'hi3).going)) && (((x.tokens[k]'hi3).place) != 0))) || (!(Yr ((x.tokens[k]'hi3).sum) (-1000000) 1000000))) by first | (rw [hg8,hg9,hg10] <;> rfl) | (simp [hg8,hg9,hg10];done) | (simp only [Qq] <;> simp)),trivial⟩ ⟨E,(by omega),h1⟩))
       ·refine Qg Z Z Z Z (Qg Z Z Z Z (Qg Z Z Z Z (Qg Z Z Z Z (Qg Z Z Z Z (Qg Z Z Z Z (Qg Z Z Z Z (Qn Z Z (Q1 Z Z) Z (Qa (Q1 Z Z) Z (Qa (Qd Z) Z (Qn Z Z (Qb Ve Z) Z (Qn Z Z (Qk Co Z (h1.one 5 Z)) Z (Qn Z Z (Qd Z) Z (Qn Z Z (Qz (i:=k) Gz Z Z (hd4.rd.ext E) hi3) Z (Qn Z Z (Qs Gw Z) Z (Qn Z Z (Qk Yt Z (((hd4.rd.ext E).get hi3).one 2 Z)) Z ?_)))))))))))))))
        refine X2 Z Z ?_
        refine Qw Tryz.call106 Z (s_l01In ((x.tokens[k]'hi3).sum) (-1000000) 1000000 _ ) Z (fun _ w18 e11 hv=>?_)
        subst hv
        replace E:=E.trans e11;replace h1:=h1.ext e11
        have z16:=e11.size
        refine Qn Z Z (Yy Z) Z (Qa (Q1 Z Z) Z (Qr ⟨Z,Z,Z,Z,Z,Z,Z,Z,Z,congrArg (fun b=>some (Value.bool b)) (show (!(Yr ((x.tokens[k]'hi3).sum) (-1000000) 1000000)) = (((!(Yr ((x.tokens[k]'hi3).place) 0 (IntKind.i64.wrap (x.graph.workers - 1)))) || ((!((x.tokens[k]'hi3).going)) && (((x.tokens[k]'hi3).place) != 0))) || (!(Yr ((x.tokens[k]'hi3).sum) (-1000000) 1000000))) by first | (rw [hg8,hg9] <;> rfl) | (simp [hg8,hg9];done) | (simp only [Qq] <;> simp)),trivial⟩ ⟨E,(by omega),h1⟩))
     clear E h1
     rintro w16 ⟨E,z17,h1⟩
     refine Qc (Qt Z (fun hc7=>?_) (fun hc7=>?_))
     ·refine Qe (Qh [true] Z Z (Qa (Qf Z) Z (Qc (Qv (Q2 (Yv (Q2 (Qm Z Z E ?_))))))))
      exact cl_3 (by assumption) hc7
     ·refine Qo (Q6 (Y0 (Qh [true,true,true] Z Z (Qa (Qd Z) Z (Qa (Ye Z Z (Yg (by unfold maxLen;omega))) Z (Qa (Qf Z) Z (Qc (Q6 (Yk (k + 1) (by omega) ⟨Z,Z,Z,Z,trivial⟩ ⟨E,(by omega),h1,(by omega),Kh hI3 (by assumption) (nb hc7)⟩)))))))))
    ·have hc6n : ¬ k < x.tokens.length:=by first | (have h:=of_decide_eq_false hc6;omega) | (have h:=hc6;simp at h;omega)
     refine Yq (Q5 (Q3 ?_))
     refine Qe (Qe (Qh [true] Z Z (Qa (Qf Z) Z (Qc (Q0 (Yp (fun (k : Nat)=>[(1,.pointer (some ⟨b1,0,none⟩)),(2,.bool false),(3,.int .i64 x.graph.workers),(8,.int .i64 ((k : Nat) : Int))]) (fun (k : Nat) w'=>Ext w w' ∧ w14.heap.size ≤ w'.heap.size ∧ Blk w' b1 ([o1,.int .i64 x.graph.workers,.int .i64 x.graph.cap,o2,o3,o4,o5]) ∧ k ≤ x.news.length ∧ (x.news.take k).all (fun t=>!nwBad x.graph t) = true) (fun (k : Nat)=>x.news.length - k) 0 ⟨Z,Z,Z,Z,trivial⟩ ⟨E,Nat.le_refl _,h1,Nat.zero_le _,Z⟩ ?_))))))
     clear E h1
     rintro k w19 ⟨E,z18,h1,hk,hI4⟩
     have hmn:=hd5.1.1
     unfold maxLen at hmn
     refine Qe (Qe (Qh [true,true,true,true,true] Z Z (Qa (Qd Z) Z (Qa (Qb G6 Z) Z (Qa (Qk Bn Z (h1.one 6 Z)) Z (Qa (Yc Tryz.underlying38 Z (hd5.ext E).len) Z (Qa (Yi Z Z) Z (Qc (Qt Z (fun hc8=>?_) (fun hc8=>?_))))))))))
     ·have hc8n : k < x.news.length:=by first | (have h:=of_decide_eq_true hc8;omega) | (have h:=hc8;simp at h;omega)
      refine Qo (Qe (Q0 (Qe (Qh [true,true,true,true,true,true,true,true,false,true,true,true,true,true,true,true,true,false,true,true] Z Z (Qa (Qb G6 Z) Z (Qa (Qk Bn Z (h1.one 6 Z)) Z (Qa (Qd Z) Z ?_)))))))
      have hi4 : k < x.news.length:=(by first | assumption | omega | (simp only [List.length_set];first | assumption | omega) | (simp only [List.getElem_set_self,List.length_set];first | assumption | omega) | (simp only [Yn,Yh,List.length_set];first | assumption | omega))
      refine Qa (Qz (i:=k) Cn Z Z (hd5.rd.ext E) hi4) Z (Qa (Qs Tk Z) Z (Qa (Qk Yt Z (((hd5.rd.ext E).get hi4).one 0 Z)) Z (Qa (Qd Z) Z (Qa (K6 Z Z Z) Z (Qw Tryz.call106 Z (s_l01In ((x.news[k]'hi4).dest) 0 (IntKind.i64.wrap (x.graph.workers - 1)) _ ) Z (fun _ w20 e12 hv=>?_))))))
      subst hv
      replace E:=E.trans e12;replace h1:=h1.ext e12
      have z19:=e12.size
      refine Qa (Yy Z) Z (Qa (Qd Z) Z (Xf 9 [(1,.pointer (some ⟨b1,0,none⟩)),(2,.bool false),(3,.int .i64 x.graph.workers),(8,.int .i64 ((k : Nat) : Int)),(143,.int .i64 ((k : Nat) : Int)),(144,.pointer (some ⟨b1,6,none⟩)),(145,o5),(146,.int .i64 ((x.news.length : Nat) : Int)),(147,.bool (decide (((k : Nat) : Int) < ((x.news.length : Nat) : Int)))),(169,.bool ((!(Yr ((x.news[k]'hi4).dest) 0 (IntKind.i64.wrap (x.graph.workers - 1)))) || (!(Yr ((x.news[k]'hi4).epoch) 0 3))))] (fun w'=>Ext w w' ∧ w20.heap.size ≤ w'.heap.size ∧ Blk w' b1 ([o1,.int .i64 x.graph.workers,.int .i64 x.graph.cap,o2,o3,o4,o5])) ?_ ?_))
      ·refine Y4 (gd:=160) Z Z (fun hg11=>?_) (fun hg11=>?_)
       ·refine Qg Z Z Z Z (Qg Z Z Z Z (Qg Z Z Z Z (Qg Z Z Z Z (Qg Z Z Z Z (Qg Z Z Z Z ?_)))))
        refine Yx Z Z Z Z ?_
        refine Qg Z Z Z Z (Qa (Qx Z Z) Z (Qr ⟨Z,Z,Z,Z,Z,Z,Z,Z,Z,congrArg (fun b=>some (Value.bool b)) (show true = ((!(Yr ((x.news[k]'hi4).dest) 0 (IntKind.i64.wrap (x.graph.workers - 1)))) || (!(Yr ((x.news[k]'hi4).epoch) 0 3))) by first | (rw [hg11] <;> rfl) | (simp [hg11];done) | (simp only [Qq] <;> simp)),trivial⟩ ⟨E,(by omega),h1⟩))
       ·refine Qn Z Z (Qb G6 Z) Z (Qn Z Z (Qk Bn Z (h1.one 6 Z)) Z (Qn Z Z (Qd Z) Z (Qn Z Z (Qz (i:=k) Cn Z Z (hd5.rd.ext E) hi4) Z (Qn Z Z (Qs Tj Z) Z (Qn Z Z (Qk Yt Z (((hd5.rd.ext E).get hi4).one 1 Z)) Z ?_)))))
        refine X2 Z Z ?_
        refine Qw Tryz.call106 Z (s_l01In ((x.news[k]'hi4).epoch) 0 3 _ ) Z (fun _ w22 e13 hv=>?_)
        subst hv
        replace E:=E.trans e13;replace h1:=h1.ext e13
        have z20:=e13.size
        refine Qn Z Z (Yy Z) Z (Qa (Q1 Z Z) Z (Qr ⟨Z,Z,Z,Z,Z,Z,Z,Z,Z,congrArg (fun b=>some (Value.bool b)) (show (!(Yr ((x.news[k]'hi4).epoch) 0 3)) = ((!(Yr ((x.news[k]'hi4).dest) 0 (IntKind.i64.wrap (x.graph.workers - 1)))) || (!(Yr ((x.news[k]'hi4).epoch) 0 3))) by first | (rw [hg11] <;> rfl) | (simp [hg11];done) | (simp only [Qq] <;> simp)),trivial⟩ ⟨E,(by omega),h1⟩))
      clear E h1
      rintro w21 ⟨E,z21,h1⟩
      refine Qc (Qt Z (fun hc9=>?_) (fun hc9=>?_))
      ·refine Qe (Qh [true] Z Z (Qa (Qf Z) Z (Qc (Qv (Q2 (Yv (Q2 (Qm Z Z E ?_))))))))
       exact cl_4 (by assumption) hc9
      ·refine Qo (Q6 (Y0 (Qh [true,true,true] Z Z (Qa (Qd Z) Z (Qa (Ye Z Z (Yg (by unfold maxLen;omega))) Z (Qa (Qf Z) Z (Qc (Q6 (Yk (k + 1) (by omega) ⟨Z,Z,Z,Z,trivial⟩ ⟨E,(by omega),h1,(by omega),Kh hI4 (by assumption) (nb hc9)⟩)))))))))
     ·have hc8n : ¬ k < x.news.length:=by first | (have h:=of_decide_eq_false hc8;omega) | (have h:=hc8;simp at h;omega)
      refine Yq (Q5 (Q3 ?_))
      refine Qe (Qh [true] Z Z (Qa (Qf Z) Z (Qc (Qv (Qm Z Z E ?_)))))
      exact cl_5 hc1 (Gy hI1 (by omega)) (Cl hI2 (by omega)) (Gy hI3 (by omega)) (Gy hI4 (by omega))

end Go.Proofs.YtjpoipdddpmeiaaGreat
