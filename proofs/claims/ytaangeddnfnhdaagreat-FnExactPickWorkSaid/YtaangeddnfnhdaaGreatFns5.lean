/- What the functions that the laws call come to: a contract each; no condition. -/
import Derived.Test.YtaangeddnfnhdaaGreatFns4
namespace Go.Proofs.YtaangeddnfnhdaaGreat
open Go Go.Proofs.YtaangeddnfnhdaaGreat.X Go.Proofs
set_option maxHeartbeats 4000000 in
set_option maxRecDepth 20000 in
theorem s_StepOp (cg : List Value) (g : Graph) (vcs : Value) (cs : List Cell) (r : Record) (w : World) (hg : Dat.R w 0 w.heap.size cg g) (hcs : RdS w vcs cs) (hb : cs.length ≤ 4194304) (hcg : Xa g ≤ 1048576) : Ct Tryz.prog 47 [.agg cg.toArray,vcs,.agg (Enc.enc r).toArray] w (fun v w'=>∃ u0 u1,v = .tuple [u0,u1,.bool ((Xw g cs r).2.2)].toArray ∧ Own w' w.heap.size w'.heap.size 4 u0 (List.flatMap (Enc.enc (α:=Cell)) ((Xw g cs r).1)) ∧ Own w' w.heap.size w'.heap.size 5 u1 (List.flatMap (Enc.enc (α:=Record)) ((Xw g cs r).2.1)) ∧ SepL [u0,u1]):=by
 refine Yh Tryz.func47 Z Tryz.ntmps47 Z ?_
 obtain ⟨o1,rfl,hd1⟩:=Graph.op hg
 refine Q7 [(0,.agg [o1,.int .i64 g.workers,.int .i64 g.cap].toArray),(1,vcs),(2,.agg (Enc.enc r).toArray)] ⟨Z,Z,Z,trivial⟩ ?_
 have E : Ext w w:=Ext.refl w
 refine Qf (Qh [false,false,true,true,true] Z Z (Y1 Z Z (fun b1 w1 e1 s1 h1=>?_)))
 have g_b1 : w.heap.size ≤ b1:=by have:=E.size;omega
 have y_b1:=h1.lt
 replace E:=E.trans e1
 have z1:=e1.size
 refine Y1 Z Z (fun b2 w2 e2 s2 h2=>?_)
 have g_b2 : w.heap.size ≤ b2:=by have:=E.size;omega
 have y_b2:=h2.lt
 replace E:=E.trans e2;replace h1:=h1.ext e2
 have z2:=e2.size
 refine Qa (Qe Z) Z (Qa (Qe Z) Z (Qa (Qe Z) Z (Qd (Qf (Qh [false,true,false,true] Z Z (Yz (vs:=[]) (css:=[]) Xq Z Z trivial Z Z (fun b3 w3 e3 s3 h3=>?_)))))))
 replace h3 : Blk w3 b3 []:=h3
 have g_b3 : w.heap.size ≤ b3:=by have:=E.size;omega
 have y_b3:=h3.lt
 replace E:=E.trans e3;replace h1:=h1.ext e3;replace h2:=h2.ext e3
 have z3:=e3.size
 refine Qa (Qc Z) Z (K8 Xq Z Z (Own.ofBlk (lo:=b3) (hi:=b3 + 1) (sz:=4) h3 (Nat.le_refl _) (Nat.lt_succ_self _) (by simp) (by simp [maxLen])) (RdS.src (hcs.ext E)) (Xe _) (by first | (simp only [Yb,List.length_nil,List.length_cons];simp only [Enc.sz];omega) | (have h:=Hv g r k;rw [Yb];simp only [show Enc.sz Record = 5 from Z,List.length_cons,List.length_nil];omega)) (by decide) (by omega) (by omega) Z Z (fun v1 w4 m1 ho1=>?_))
 replace E:=E.step m1 (fun g hg=>by have:=Own.blk (Own.ofBlk (lo:=b3) (hi:=b3 + 1) (sz:=4) h3 (Nat.le_refl _) (Nat.lt_succ_self _) (by simp) (by simp [maxLen])) g hg;omega);replace h1:=h1.mod m1 (fun g hg=>by have:=Own.blk (Own.ofBlk (lo:=b3) (hi:=b3 + 1) (sz:=4) h3 (Nat.le_refl _) (Nat.lt_succ_self _) (by simp) (by simp [maxLen])) g hg;omega);replace h2:=h2.mod m1 (fun g hg=>by have:=Own.blk (Own.ofBlk (lo:=b3) (hi:=b3 + 1) (sz:=4) h3 (Nat.le_refl _) (Nat.lt_succ_self _) (by simp) (by simp [maxLen])) g hg;omega)
 have z4:=m1.size
 refine Qa (Qe Z) Z (Qd (Qf (Qh [false,true] Z Z (Yz (vs:=[]) (css:=[]) Kn Z Z trivial Z Z (fun b4 w5 e4 s4 h4=>?_)))))
 replace h4 : Blk w5 b4 []:=h4
 have g_b4 : w.heap.size ≤ b4:=by have:=E.size;omega
 have y_b4:=h4.lt
 replace E:=E.trans e4;replace h1:=h1.ext e4;replace h2:=h2.ext e4;replace ho1:=ho1.ext e4
 have z5:=e4.size
 refine Qa (Qe Z) Z (Qd (Qf (Qh [true,true,true,false,true,true,true,false,false,true] Z Z (Qa (Qt Km Z h1.at Z) Z (Qa (Qb Uy Z) Z (Qa (Qj Yo Z (h2.one 0 Z)) Z (Qv Tryz.call94 Z (s_NodeOf [o1,.int .i64 g.workers,.int .i64 g.cap] g r.op _ (Graph.mkR g (RdD.any (hd1.ext E))) (by first | omega | (simp only [Qi];omega) | (rw [Qi];done) | (simp only [Qi];done))) Z (fun _ w6 e5 ho2=>?_))))))))
 obtain ⟨_,rfl,ho3⟩:=ho2
 have g_ho2 : w.heap.size ≤ w5.heap.size:=E.size
 replace E:=E.trans e5;replace h1:=h1.ext e5;replace h2:=h2.ext e5;replace ho1:=ho1.ext e5;replace h4:=h4.ext e5
 have z6:=e5.size
 obtain ⟨o2,rfl,sp1,hw1⟩:=Node.opO ho3
 refine Qa (Qc Z) Z (Qa (Yv Z Z) Z (Qa (Yv Z Z) Z (Yk Xo Z (fun b5 w7 e6 s5 h5=>?_))))
 have g_b5 : w.heap.size ≤ b5:=by have:=E.size;omega
 have y_b5:=h5.lt
 replace E:=E.trans e6;replace h1:=h1.ext e6;replace h2:=h2.ext e6;replace ho1:=ho1.ext e6;replace h4:=h4.ext e6;replace hw1:=hw1.ext e6
 have z7:=e6.size
 refine Q6 (cs':=[.int .i64 (((Qr g r.op).1).kind),.int .i64 (((Qr g r.op).1).a),.int .i64 (((Qr g r.op).1).b),o2]) Xo Z Z Z (Qk Z (Qk Z (Qk Z (Qk hw1.one Z)))) h5 (Nat.le_of_ble_eq_true Z) Z (fun w8 m2 h5'=>?_)
 replace h5:=h5'
 replace E:=E.step m2 (fun g hg=>by cases hg;omega);replace h1:=h1.mod m2 (fun g hg=>by cases hg;omega);replace h2:=h2.mod m2 (fun g hg=>by cases hg;omega);replace ho1:=ho1.mod m2 (fun g hg=>by cases hg;omega);replace h4:=h4.mod m2 (fun g hg=>by cases hg;omega);replace hw1:=hw1.mod m2 (fun g hg=>by cases hg;omega)
 have z8:=m2.size
 refine Qa (Qe Z) Z (Qd (Qf (Qf (Qh [true,true,true,true,false,true,true,true,true,false,true,true] Z Z (Qa (Qc Z) Z (Qa (Yq Z) Z (Qa (Qc Z) Z (Y7 9 [(0,.agg [o1,.int .i64 g.workers,.int .i64 g.cap].toArray),(1,vcs),(2,.agg (Enc.enc r).toArray),(3,.pointer (some ⟨b1,0,none⟩)),(5,.pointer (some ⟨b2,0,none⟩)),(6,.slice none 0 0),(7,.slice none 0 0),(8,.bool false),(9,v1),(10,.slice (some ⟨b4,0,none⟩) 0 0),(11,.pointer (some ⟨b5,0,none⟩)),(12,.bool ((Qr g r.op).2)),(22,.slice (some ⟨b3,0,none⟩) 0 0),(23,vcs),(24,v1),(25,.slice (some ⟨b4,0,none⟩) 0 0),(26,.tuple [.agg [.int .i64 (((Qr g r.op).1).kind),.int .i64 (((Qr g r.op).1).a),.int .i64 (((Qr g r.op).1).b),o2].toArray,.bool ((Qr g r.op).2)].toArray),(27,.agg [o1,.int .i64 g.workers,.int .i64 g.cap].toArray),(28,.pointer (some ⟨b2,0,none⟩)),(29,.int .i64 r.op),(30,.tuple [.agg [.int .i64 (((Qr g r.op).1).kind),.int .i64 (((Qr g r.op).1).a),.int .i64 (((Qr g r.op).1).b),o2].toArray,.bool ((Qr g r.op).2)].toArray),(31,.agg [.int .i64 (((Qr g r.op).1).kind),.int .i64 (((Qr g r.op).1).a),.int .i64 (((Qr g r.op).1).b),o2].toArray),(32,.bool ((Qr g r.op).2)),(44,.bool (((!((Qr g r.op).2)) || (!(Ys g))) || (!(Yx r))))] (fun w'=>Ext w w' ∧ w8.heap.size ≤ w'.heap.size ∧ Blk w' b1 ([o1,.int .i64 g.workers,.int .i64 g.cap]) ∧ Blk w' b2 (Enc.enc r) ∧ Own w' b3 w4.heap.size 4 v1 ([] ++ List.flatMap (Enc.enc (α:=Cell)) cs) ∧ Blk w' b4 [] ∧ Own w' w5.heap.size w6.heap.size 1 o2 (List.flatMap (Enc.enc (α:=Int)) (((Qr g r.op).1).outs)) ∧ Blk w' b5 [.int .i64 (((Qr g r.op).1).kind),.int .i64 (((Qr g r.op).1).a),.int .i64 (((Qr g r.op).1).b),o2]) ?_ ?_))))))))
 ·refine Y3 (gd:=35) Z Z (fun hg1=>?_) (fun hg1=>?_)
  ·refine Qg Z Z Z Z ?_
   refine Yp Z Z Z Z ?_
   refine Qg Z Z Z Z (Qa (Qx Z Z) Z (Qa (Qc Z) Z (Qg Z Z Z Z ?_)))
   refine Yp Z Z Z Z ?_
   refine Qg Z Z Z Z (Qa (Qx Z Z) Z (Qp ⟨Z,Z,Z,Z,Z,Z,Z,Z,Z,Z,Z,Z,Z,Z,Z,Z,Z,Z,Z,Z,Z,Z,Z,congrArg (fun b=>some (Value.bool b)) (show true = (((!((Qr g r.op).2)) || (!(Ys g))) || (!(Yx r))) by first | (rw [hg1] <;> rfl) | (simp [hg1];done) | (simp only [Qo] <;> simp)),trivial⟩ ⟨E,(by omega),h1,h2,ho1,h4,hw1,h5⟩))
  ·refine Qm Z Z (Qt Km Z h1.at Z) Z ?_
   refine Xp Z Z ?_
   refine Qv Tryz.call89 Z (s_GraphOk [o1,.int .i64 g.workers,.int .i64 g.cap] g _ (Graph.mkR g (RdD.any (hd1.ext E)))) Z (fun _ w10 e7 hv=>?_)
   subst hv
   replace E:=E.trans e7;replace h1:=h1.ext e7;replace h2:=h2.ext e7;replace ho1:=ho1.ext e7;replace h4:=h4.ext e7;replace hw1:=hw1.ext e7;replace h5:=h5.ext e7
   have z9:=e7.size
   refine Qm Z Z (Yq Z) Z (Qa (Qy Z Z) Z (Qa (Qc Z) Z ?_))
   refine Y3 (gd:=40) Z Z (fun hg2=>?_) (fun hg2=>?_)
   ·refine Qg Z Z Z Z ?_
    refine Yp Z Z Z Z ?_
    refine Qg Z Z Z Z (Qa (Qx Z Z) Z (Qp ⟨Z,Z,Z,Z,Z,Z,Z,Z,Z,Z,Z,Z,Z,Z,Z,Z,Z,Z,Z,Z,Z,Z,Z,congrArg (fun b=>some (Value.bool b)) (show true = (((!((Qr g r.op).2)) || (!(Ys g))) || (!(Yx r))) by first | (rw [hg1,hg2] <;> rfl) | (simp [hg1,hg2];done) | (simp only [Qo] <;> simp)),trivial⟩ ⟨E,(by omega),h1,h2,ho1,h4,hw1,h5⟩))
   ·refine Qm Z Z (Qt Va Z h2.at Z) Z ?_
    refine Xp Z Z ?_
    refine Qv Tryz.call95 Z (s_RecordOk r _ ) Z (fun _ w11 e8 hv=>?_)
    subst hv
    replace E:=E.trans e8;replace h1:=h1.ext e8;replace h2:=h2.ext e8;replace ho1:=ho1.ext e8;replace h4:=h4.ext e8;replace hw1:=hw1.ext e8;replace h5:=h5.ext e8
    have z10:=e8.size
    refine Qm Z Z (Yq Z) Z (Qa (Qy Z Z) Z (Qp ⟨Z,Z,Z,Z,Z,Z,Z,Z,Z,Z,Z,Z,Z,Z,Z,Z,Z,Z,Z,Z,Z,Z,Z,congrArg (fun b=>some (Value.bool b)) (show (!(Yx r)) = (((!((Qr g r.op).2)) || (!(Ys g))) || (!(Yx r))) by first | (rw [hg1,hg2] <;> rfl) | (simp [hg1,hg2];done) | (simp only [Qo] <;> simp)),trivial⟩ ⟨E,(by omega),h1,h2,ho1,h4,hw1,h5⟩))
 clear E h1 h2 ho1 h4 hw1 h5
 rintro w9 ⟨E,z11,h1,h2,ho1,h4,hw1,h5⟩
 refine Qd (Qs Z (fun hc1=>?_) (fun hc1=>?_))
 ·replace hc1:=st_spt hc1
  refine Qf (Qh [true,true,true,true,true] Z Z (Qa (Qc Z) Z (Qa (Qc Z) Z (Qa (Qe Z) Z (Qa (Qe Z) Z (Qa (Qe Z) Z (Qd (Qw (Y5 (l:=[.tmp 6,.tmp 7,.tmp 8]) (vs:=[v1,.slice (some ⟨b4,0,none⟩) 0 0,.bool false]) Z ⟨.tmp Z,.tmp Z,.tmp Z,trivial⟩ Z E ?_)))))))))
  rw [st_0 hc1]
  exact ⟨_,_,Z,Own.fin ho1 (by omega) (by omega) (by first | rfl | (simp only [List.nil_append];done)),Own.fin (Own.ofBlk (lo:=b4) (hi:=b4 + 1) (sz:=5) h4 (Nat.le_refl _) (Nat.lt_succ_self _) (by rfl) (by unfold maxLen;omega)) (by omega) (by omega) (by first | rfl | (simp only [List.nil_append];done)),⟨⟨(Own.sep ho1 (Own.ofBlk (lo:=b4) (hi:=b4 + 1) (sz:=5) h4 (Nat.le_refl _) (Nat.lt_succ_self _) (by rfl) (by unfold maxLen;omega)) (by omega)),trivial⟩,⟨trivial,trivial⟩⟩⟩
 ·replace hc1:=st_spf hc1
  have hq:=st_of hc1
  have hop:=Vx hq.2
  have hx : ((Qr g r.op).1) = U9 g r:=nodeOf_1 hq.2
  have hol : ((Qr g r.op).1).outs.length ≤ 2:=hx ▸ Aj (i:=Int.toNat r.op) hq.1 (by omega)
  refine Qn (Qf (Qh [true,true,true,true,true,false,true,true,true,true,true,true,true] Z Z (Qa (Qt Xo Z h5.at Z) Z (Qa (Qb Hk Z) Z (Qa (Qj Yo Z (h2.one 3 Z)) Z (Qa (Qb Hj Z) Z (Qa (Qj Yo Z (h2.one 4 Z)) Z (Qv Tryz.call96 Z (s_Changed [.int .i64 (((Qr g r.op).1).kind),.int .i64 (((Qr g r.op).1).a),.int .i64 (((Qr g r.op).1).b),o2] ((Qr g r.op).1) r.key r.val _ (Node.mkR ((Qr g r.op).1) (RdD.any (Own.rdD hw1)))) Z (fun _ w12 e9 hv=>?_)))))))))
  subst hv
  replace E:=E.trans e9;replace h1:=h1.ext e9;replace h2:=h2.ext e9;replace ho1:=ho1.ext e9;replace h4:=h4.ext e9;replace hw1:=hw1.ext e9;replace h5:=h5.ext e9
  have z12:=e9.size
  refine Qa (Qc Z) Z (Qa (Yv Z Z) Z (Qa (Yv Z Z) Z (Qa (Yv Z Z) Z (Qa (Qe Z) Z (Qa (Qe Z) Z (Qa (Qe Z) Z (Qd (Qf (Qf (Qh [true,true,true,true,true,true,true] Z Z (Qa (Qc Z) Z (Qa (Yq Z) Z (Qa (Qc Z) Z (Y7 4 [(0,.agg [o1,.int .i64 g.workers,.int .i64 g.cap].toArray),(1,vcs),(2,.agg (Enc.enc r).toArray),(3,.pointer (some ⟨b1,0,none⟩)),(5,.pointer (some ⟨b2,0,none⟩)),(6,.slice none 0 0),(7,.slice none 0 0),(8,.bool false),(9,v1),(10,.slice (some ⟨b4,0,none⟩) 0 0),(11,.pointer (some ⟨b5,0,none⟩)),(12,.bool ((Qr g r.op).2)),(13,.int .i64 ((Qq ((Qr g r.op).1) r.key r.val).1)),(14,.int .i64 ((Qq ((Qr g r.op).1) r.key r.val).2.1)),(15,.bool ((Qq ((Qr g r.op).1) r.key r.val).2.2)),(22,.slice (some ⟨b3,0,none⟩) 0 0),(23,vcs),(24,v1),(25,.slice (some ⟨b4,0,none⟩) 0 0),(26,.tuple [.agg [.int .i64 (((Qr g r.op).1).kind),.int .i64 (((Qr g r.op).1).a),.int .i64 (((Qr g r.op).1).b),o2].toArray,.bool ((Qr g r.op).2)].toArray),(27,.agg [o1,.int .i64 g.workers,.int .i64 g.cap].toArray),(28,.pointer (some ⟨b2,0,none⟩)),(29,.int .i64 r.op),(30,.tuple [.agg [.int .i64 (((Qr g r.op).1).kind),.int .i64 (((Qr g r.op).1).a),.int .i64 (((Qr g r.op).1).b),o2].toArray,.bool ((Qr g r.op).2)].toArray),(31,.agg [.int .i64 (((Qr g r.op).1).kind),.int .i64 (((Qr g r.op).1).a),.int .i64 (((Qr g r.op).1).b),o2].toArray),(32,.bool ((Qr g r.op).2)),(44,.bool (((!((Qr g r.op).2)) || (!(Ys g))) || (!(Yx r)))),(47,.tuple [.int .i64 ((Qq ((Qr g r.op).1) r.key r.val).1),.int .i64 ((Qq ((Qr g r.op).1) r.key r.val).2.1),.bool ((Qq ((Qr g r.op).1) r.key r.val).2.2)].toArray),(48,.agg [.int .i64 (((Qr g r.op).1).kind),.int .i64 (((Qr g r.op).1).a),.int .i64 (((Qr g r.op).1).b),o2].toArray),(49,.pointer (some ⟨b2,3,none⟩)),(50,.int .i64 r.key),(51,.pointer (some ⟨b2,4,none⟩)),(52,.int .i64 r.val),(53,.tuple [.int .i64 ((Qq ((Qr g r.op).1) r.key r.val).1),.int .i64 ((Qq ((Qr g r.op).1) r.key r.val).2.1),.bool ((Qq ((Qr g r.op).1) r.key r.val).2.2)].toArray),(54,.int .i64 ((Qq ((Qr g r.op).1) r.key r.val).1)),(55,.int .i64 ((Qq ((Qr g r.op).1) r.key r.val).2.1)),(56,.bool ((Qq ((Qr g r.op).1) r.key r.val).2.2)),(63,.bool ((!((Qq ((Qr g r.op).1) r.key r.val).2.2)) && ((((Qr g r.op).1).kind) != 8)))] (fun w'=>w12 = w') ?_ ?_))))))))))))))
  ·refine Y3 (gd:=59) Z Z (fun hg3=>?_) (fun hg3=>?_)
   ·refine Qm Z Z (Qb Xk Z) Z (Qm Z Z (Qj Yo Z (h5.one 0 Z)) Z (Qm Z Z (Yu Z Z) Z (Qa (Qx Z Z) Z (Qp ⟨Z,Z,Z,Z,Z,Z,Z,Z,Z,Z,Z,Z,Z,Z,Z,Z,Z,Z,Z,Z,Z,Z,Z,Z,Z,Z,Z,Z,Z,Z,Z,Z,Z,Z,Z,Z,Z,congrArg (fun b=>some (Value.bool b)) (show ((((Qr g r.op).1).kind) != 8) = ((!((Qq ((Qr g r.op).1) r.key r.val).2.2)) && ((((Qr g r.op).1).kind) != 8)) by first | (rw [hg3] <;> rfl) | (simp [hg3];done) | (simp only [Qo] <;> simp)),trivial⟩ Z))))
   ·refine Qg Z Z Z Z (Qg Z Z Z Z (Qg Z Z Z Z (Qa (Qy Z Z) Z (Qp ⟨Z,Z,Z,Z,Z,Z,Z,Z,Z,Z,Z,Z,Z,Z,Z,Z,Z,Z,Z,Z,Z,Z,Z,Z,Z,Z,Z,Z,Z,Z,Z,Z,Z,Z,Z,Z,Z,congrArg (fun b=>some (Value.bool b)) (show false = ((!((Qq ((Qr g r.op).1) r.key r.val).2.2)) && ((((Qr g r.op).1).kind) != 8)) by first | (rw [hg3] <;> rfl) | (simp [hg3];done) | (simp only [Qo] <;> simp)),trivial⟩ Z))))
  rintro _ rfl
  refine Qd (Qs Z (fun hc2=>?_) (fun hc2=>?_))
  ·refine Qf (Qh [true,true,true,true,true] Z Z (Qa (Qc Z) Z (Qa (Qc Z) Z (Qa (Qe Z) Z (Qa (Qe Z) Z (Qa (Qe Z) Z (Qd (Qw (Y5 (l:=[.tmp 6,.tmp 7,.tmp 8]) (vs:=[v1,.slice (some ⟨b4,0,none⟩) 0 0,.bool true]) Z ⟨.tmp Z,.tmp Z,.tmp Z,trivial⟩ Z E ?_)))))))))
   rw [st_1 hc1 hx hc2]
   exact ⟨_,_,Z,Own.fin ho1 (by omega) (by omega) (by first | rfl | (simp only [List.nil_append];done)),Own.fin (Own.ofBlk (lo:=b4) (hi:=b4 + 1) (sz:=5) h4 (Nat.le_refl _) (Nat.lt_succ_self _) (by rfl) (by unfold maxLen;omega)) (by omega) (by omega) (by first | rfl | (simp only [List.nil_append];done)),⟨⟨(Own.sep ho1 (Own.ofBlk (lo:=b4) (hi:=b4 + 1) (sz:=5) h4 (Nat.le_refl _) (Nat.lt_succ_self _) (by rfl) (by unfold maxLen;omega)) (by omega)),trivial⟩,⟨trivial,trivial⟩⟩⟩
  ·refine Qn (Qf (Qf (Qh [true,true,false] Z Z (Qa (Qb Xk Z) Z (Qa (Qj Yo Z (h5.one 0 Z)) Z (Qv Tryz.call97 Z (s_Remembers (((Qr g r.op).1).kind) _ ) Z (fun _ w14 e10 hv=>?_)))))))
   subst hv
   replace E:=E.trans e10;replace h1:=h1.ext e10;replace h2:=h2.ext e10;replace ho1:=ho1.ext e10;replace h4:=h4.ext e10;replace hw1:=hw1.ext e10;replace h5:=h5.ext e10
   have z13:=e10.size
   refine Qd (Qs Z (fun hc3=>?_) (fun hc3=>?_))
   ·refine Qf (Qh [true,true,true,true,true,true,true,true,true,true,true,true,true,false,true,true,true,true,true] Z Z (Qa (Qb Xk Z) Z (Qa (Qj Yo Z (h5.one 0 Z)) Z (Qa (Qc Z) Z (Qa (Qb Uy Z) Z (Qa (Qj Yo Z (h2.one 0 Z)) Z (Qa (Qb Kx Z) Z (Qa (Qz Vi Z) Z (Qa (Qj Yo Z (h2.one 1 Z)) Z (Qa (Qb Hk Z) Z (Qa (Qj Yo Z (h2.one 3 Z)) Z (Qa (Qb Hj Z) Z (Qa (Qj Yo Z (h2.one 4 Z)) Z (Qa (Gs (⟨r.op,r.stamp.epoch,r.key,r.val⟩ : Cell) Z (fun _=>by kernel_rfl)) Z (Qv Tryz.call98 Z (s_Recall (((Qr g r.op).1).kind) vcs cs (⟨r.op,r.stamp.epoch,r.key,r.val⟩ : Cell) _ (hcs.ext E) (by first | omega | (simp only [Qi];omega) | (rw [Qi];done) | (simp only [Qi];done))) Z (fun _ w15 e11 ho4=>?_))))))))))))))))
    obtain ⟨v2,rfl,ho5⟩:=ho4
    have g_ho4 : w.heap.size ≤ w14.heap.size:=E.size
    replace E:=E.trans e11;replace h1:=h1.ext e11;replace h2:=h2.ext e11;replace ho1:=ho1.ext e11;replace h4:=h4.ext e11;replace hw1:=hw1.ext e11;replace h5:=h5.ext e11
    have z14:=e11.size
    refine Qa (Qc Z) Z (Qa (Yv Z Z) Z (Qa (Yv Z Z) Z (Qa (Qe Z) Z (Qa (Qe Z) Z (Qd (Qf (Qh [true,true] Z Z (Qa (Qc Z) Z (Qa (Qe Z) Z (Qd (Qf (Qh [true,true] Z Z (Qa (Qc Z) Z (Qa (Yq Z) Z (Qd (Qs Z (fun hc4=>?_) (fun hc4=>?_)))))))))))))))))
    ·refine Qf (Qh [true,true,true,true,true] Z Z (Qa (Qc Z) Z (Qa (Qc Z) Z (Qa (Qe Z) Z (Qa (Qe Z) Z (Qa (Qe Z) Z (Qd (Qw (Y5 (l:=[.tmp 6,.tmp 7,.tmp 8]) (vs:=[v2,.slice (some ⟨b4,0,none⟩) 0 0,.bool true]) Z ⟨.tmp Z,.tmp Z,.tmp Z,trivial⟩ Z E ?_)))))))))
     rw [st_2 hc1 hx hc2 hc4]
     exact ⟨_,_,Z,Own.fin ho5 (by omega) (by omega) (by first | rfl | (simp only [List.nil_append];done)),Own.fin (Own.ofBlk (lo:=b4) (hi:=b4 + 1) (sz:=5) h4 (Nat.le_refl _) (Nat.lt_succ_self _) (by rfl) (by unfold maxLen;omega)) (by omega) (by omega) (by first | rfl | (simp only [List.nil_append];done)),⟨⟨(Own.sep ho5 (Own.ofBlk (lo:=b4) (hi:=b4 + 1) (sz:=5) h4 (Nat.le_refl _) (Nat.lt_succ_self _) (by rfl) (by unfold maxLen;omega)) (by omega)),trivial⟩,⟨trivial,trivial⟩⟩⟩
    ·refine Qn (Qf (Qh [true,true,false,false] Z Z (Qa (Qb Kx Z) Z (Qa (Qt Kb Z (h2.part 1 [.int .i64 r.stamp.epoch,.int .i64 r.stamp.turn] Z) Z) Z (Yk Kb Z (fun b6 w16 e12 s6 h6=>?_))))))
     have g_b6 : w.heap.size ≤ b6:=by have:=E.size;omega
     have y_b6:=h6.lt
     replace E:=E.trans e12;replace h1:=h1.ext e12;replace h2:=h2.ext e12;replace ho1:=ho1.ext e12;replace h4:=h4.ext e12;replace hw1:=hw1.ext e12;replace h5:=h5.ext e12;replace ho5:=ho5.ext e12
     have z15:=e12.size
     refine Q6 (cs':=[.int .i64 r.stamp.epoch,.int .i64 r.stamp.turn]) Kb Z Z Z Z h6 (Nat.le_of_ble_eq_true Z) Z (fun w17 m3 h6'=>?_)
     replace h6:=h6'
     replace E:=E.step m3 (fun g hg=>by cases hg;omega);replace h1:=h1.mod m3 (fun g hg=>by cases hg;omega);replace h2:=h2.mod m3 (fun g hg=>by cases hg;omega);replace ho1:=ho1.mod m3 (fun g hg=>by cases hg;omega);replace h4:=h4.mod m3 (fun g hg=>by cases hg;omega);replace hw1:=hw1.mod m3 (fun g hg=>by cases hg;omega);replace h5:=h5.mod m3 (fun g hg=>by cases hg;omega);replace ho5:=ho5.mod m3 (fun g hg=>by cases hg;omega)
     have z16:=m3.size
     refine Qd (Qf (Qf (Qh [true,true,true] Z Z (Qa (Qb Xk Z) Z (Qa (Qj Yo Z (h5.one 0 Z)) Z (Qa (Y6 Z Z) Z (Qd (Qs Z (fun hc5=>?_) (fun hc5=>?_)))))))))
     ·have hstm:=stamp_7 hx hc5
      refine Qf (Qh [true,false,true,true,true,false,false,true] Z Z (Qa (Qt Kb Z h6.at Z) Z (Qv Tryz.call99 Z (s_NextTurn r.stamp _ ) Z (fun _ w18 e13 hv=>?_))))
      subst hv
      replace E:=E.trans e13;replace h1:=h1.ext e13;replace h2:=h2.ext e13;replace ho1:=ho1.ext e13;replace h4:=h4.ext e13;replace hw1:=hw1.ext e13;replace h5:=h5.ext e13;replace ho5:=ho5.ext e13;replace h6:=h6.ext e13
      have z17:=e13.size
      refine Qa (Qc Z) Z (Qa (Yv Z Z) Z (Qa (Yv Z Z) Z (Yk Kb Z (fun b7 w19 e14 s7 h7=>?_))))
      have g_b7 : w.heap.size ≤ b7:=by have:=E.size;omega
      have y_b7:=h7.lt
      replace E:=E.trans e14;replace h1:=h1.ext e14;replace h2:=h2.ext e14;replace ho1:=ho1.ext e14;replace h4:=h4.ext e14;replace hw1:=hw1.ext e14;replace h5:=h5.ext e14;replace ho5:=ho5.ext e14;replace h6:=h6.ext e14
      have z18:=e14.size
      refine Q6 (cs':=[.int .i64 (((Y2 r.stamp).1).epoch),.int .i64 (((Y2 r.stamp).1).turn)]) Kb Z Z Z Z h7 (Nat.le_of_ble_eq_true Z) Z (fun w20 m4 h7'=>?_)
      replace h7:=h7'
      replace E:=E.step m4 (fun g hg=>by cases hg;omega);replace h1:=h1.mod m4 (fun g hg=>by cases hg;omega);replace h2:=h2.mod m4 (fun g hg=>by cases hg;omega);replace ho1:=ho1.mod m4 (fun g hg=>by cases hg;omega);replace h4:=h4.mod m4 (fun g hg=>by cases hg;omega);replace hw1:=hw1.mod m4 (fun g hg=>by cases hg;omega);replace h5:=h5.mod m4 (fun g hg=>by cases hg;omega);replace ho5:=ho5.mod m4 (fun g hg=>by cases hg;omega);replace h6:=h6.mod m4 (fun g hg=>by cases hg;omega)
      have z19:=m4.size
      refine Qa (Qe Z) Z (Qd (Qf (Qf (Qh [true,true] Z Z (Qa (Qc Z) Z (Qa (Yq Z) Z (Qd (Qs Z (fun hc6=>?_) (fun hc6=>?_)))))))))
      ·refine Qf (Qh [true,true,true,true,true] Z Z (Qa (Qc Z) Z (Qa (Qc Z) Z (Qa (Qe Z) Z (Qa (Qe Z) Z (Qa (Qe Z) Z (Qd (Qw (Y5 (l:=[.tmp 6,.tmp 7,.tmp 8]) (vs:=[v2,.slice (some ⟨b4,0,none⟩) 0 0,.bool true]) Z ⟨.tmp Z,.tmp Z,.tmp Z,trivial⟩ Z E ?_)))))))))
       rw [st_3 hc1 hx hc2 hc4,out_no (by rw [hstm];exact not_t hc6)]
       exact ⟨_,_,Z,Own.fin ho5 (by omega) (by omega) (by first | rfl | (simp only [List.nil_append];done)),Own.fin (Own.ofBlk (lo:=b4) (hi:=b4 + 1) (sz:=5) h4 (Nat.le_refl _) (Nat.lt_succ_self _) (by rfl) (by unfold maxLen;omega)) (by omega) (by omega) (by first | rfl | (simp only [List.nil_append];done)),⟨⟨(Own.sep ho5 (Own.ofBlk (lo:=b4) (hi:=b4 + 1) (sz:=5) h4 (Nat.le_refl _) (Nat.lt_succ_self _) (by rfl) (by unfold maxLen;omega)) (by omega)),trivial⟩,⟨trivial,trivial⟩⟩⟩
      ·refine Qn (Qh [true,false] Z Z (Qa (Qt Kb Z h7.at Z) Z (Q6 (cs':=[.int .i64 (((Y2 r.stamp).1).epoch),.int .i64 (((Y2 r.stamp).1).turn)]) Kb Z Z Z Z h6 (Nat.le_of_ble_eq_true Z) Z (fun w21 m5 h6'=>?_))))
       replace h6:=h6'
       replace E:=E.step m5 (fun g hg=>by cases hg;omega);replace h1:=h1.mod m5 (fun g hg=>by cases hg;omega);replace h2:=h2.mod m5 (fun g hg=>by cases hg;omega);replace ho1:=ho1.mod m5 (fun g hg=>by cases hg;omega);replace h4:=h4.mod m5 (fun g hg=>by cases hg;omega);replace hw1:=hw1.mod m5 (fun g hg=>by cases hg;omega);replace h5:=h5.mod m5 (fun g hg=>by cases hg;omega);replace ho5:=ho5.mod m5 (fun g hg=>by cases hg;omega);replace h7:=h7.mod m5 (fun g hg=>by cases hg;omega)
       have z20:=m5.size
       refine Qd (Qf (Qf (Qh [true] Z Z (Qa (Qe Z) Z (Qd (Q0 (Ym (fun (xq : Nat × Value)=>let ⟨k,vo⟩:=xq;[(6,.slice none 0 0),(7,.slice none 0 0),(8,.bool false),(9,v2),(10,vo),(11,.pointer (some ⟨b5,0,none⟩)),(13,.int .i64 ((Qq ((Qr g r.op).1) r.key r.val).1)),(14,.int .i64 ((Qq ((Qr g r.op).1) r.key r.val).2.1)),(18,.pointer (some ⟨b6,0,none⟩)),(21,.int .i64 ((k : Nat) : Int))]) (fun (xq : Nat × Value) w'=>let ⟨k,vo⟩:=xq;Ext w w' ∧ w21.heap.size ≤ w'.heap.size ∧ Blk w' b1 ([o1,.int .i64 g.workers,.int .i64 g.cap]) ∧ Blk w' b2 (Enc.enc r) ∧ Own w' b3 w4.heap.size 4 v1 ([] ++ List.flatMap (Enc.enc (α:=Cell)) cs) ∧ Own w' w5.heap.size w6.heap.size 1 o2 (List.flatMap (Enc.enc (α:=Int)) (((Qr g r.op).1).outs)) ∧ Blk w' b5 [.int .i64 (((Qr g r.op).1).kind),.int .i64 (((Qr g r.op).1).a),.int .i64 (((Qr g r.op).1).b),o2] ∧ Own w' w14.heap.size w15.heap.size 4 v2 (List.flatMap (Enc.enc (α:=Cell)) ((X4 (((Qr g r.op).1).kind) cs (⟨r.op,r.stamp.epoch,r.key,r.val⟩ : Cell)).1)) ∧ Blk w' b6 [.int .i64 (((Y2 r.stamp).1).epoch),.int .i64 (((Y2 r.stamp).1).turn)] ∧ Blk w' b7 [.int .i64 (((Y2 r.stamp).1).epoch),.int .i64 (((Y2 r.stamp).1).turn)] ∧ k ≤ ((Qr g r.op).1).outs.length ∧ Own w' b4 w'.heap.size 5 vo (List.flatMap (Enc.enc (α:=Record)) (V4 g r k)) ∧ (∀ g,Value.ownBlock vo = some g → g = b4 ∨ w21.heap.size ≤ g)) (fun (xq : Nat × Value)=>let ⟨k,vo⟩:=xq;((Qr g r.op).1).outs.length - k) (0,.slice (some ⟨b4,0,none⟩) 0 0) ⟨Z,Z,Z,Z,Z,Z,Z,Z,Z,Z,trivial⟩ ⟨E,Nat.le_refl _,h1,h2,ho1,hw1,h5,ho5,h6,h7,Nat.zero_le _,Own.fin (Own.ofBlk (lo:=b4) (hi:=b4 + 1) (sz:=5) h4 (Nat.le_refl _) (Nat.lt_succ_self _) (by simp) (by simp [maxLen])) (by omega) (by omega) out_zero.symm,(fun g hg=>.inl (by cases hg;rfl))⟩ ?_)))))))
       clear E h1 h2 ho1 h4 hw1 h5 ho5 h6 h7
       rintro ⟨k,vo⟩ w22 ⟨E,z21,h1,h2,ho1,hw1,h5,ho5,h6,h7,hk,hvo,hvn⟩
       refine Q7 [(6,.slice none 0 0),(7,.slice none 0 0),(8,.bool false),(9,v2),(10,vo),(11,.pointer (some ⟨b5,0,none⟩)),(13,.int .i64 ((Qq ((Qr g r.op).1) r.key r.val).1)),(14,.int .i64 ((Qq ((Qr g r.op).1) r.key r.val).2.1)),(18,.pointer (some ⟨b6,0,none⟩)),(21,.int .i64 ((k : Nat) : Int))] ⟨Z,Z,Z,Z,Z,Z,Z,Z,Z,Z,trivial⟩ ?_
       refine Qf (Qf (Qh [true,true,true,true,true] Z Z (Qa (Qc Z) Z (Qa (Qb Y8 Z) Z (Qa (Qj Ke Z (h5.one 3 Z)) Z (Qa (Ya Tryz.underlying66 Z (Own.len (by decide) hw1)) Z (Qa (Yf Z Z) Z (Qd (Qs Z (fun hc7=>?_) (fun hc7=>?_))))))))))
       ·have hc7n : k < (((Qr g r.op).1).outs).length:=by first | (have h:=of_decide_eq_true hc7;omega) | (have h:=hc7;simp at h;omega)
        refine Qn (Qf (Q0 (Hp Xi [11] [(0,true),(1,true),(2,true),(3,true),(4,true),(5,true),(6,true),(7,true),(8,true),(9,true),(10,false)] [(11,false),(12,true)] (by decide +kernel) Z Z (fun w23 e15=>?_))))
        replace E:=E.trans e15;replace h1:=h1.ext e15;replace h2:=h2.ext e15;replace ho1:=ho1.ext e15;replace hw1:=hw1.ext e15;replace h5:=h5.ext e15;replace ho5:=ho5.ext e15;replace h6:=h6.ext e15;replace h7:=h7.ext e15;replace hvo:=hvo.ext e15
        have z22:=e15.size
        refine Qa (Qc Z) Z (Qa (Qb Y8 Z) Z (Qa (Qj Ke Z (h5.one 3 Z)) Z (Qa (Qc Z) Z ?_)))
        have hi1 : k < (((Qr g r.op).1).outs).length:=(by first | assumption | omega | (simp only [List.length_set];first | assumption | omega))
        refine Qa (Q1 (i:=k) Uv Z Z (Own.rd (by decide) hw1) hi1) Z (Qa (Qj Yo Z (((Own.rd (by decide) hw1).get hi1).one 0 Z)) Z (Qa (Qt Kb Z h6.at Z) Z (Qa (Qc Z) Z (Qa (Qc Z) Z (Qa (Gs (⟨((((Qr g r.op).1).outs)[k]'hi1),((Y2 r.stamp).1),(Qq ((Qr g r.op).1) r.key r.val).1,(Qq ((Qr g r.op).1) r.key r.val).2.1⟩ : Record) Z (fun _=>by kernel_rfl)) Z (Yz (vs:=[.agg (Enc.enc (⟨((((Qr g r.op).1).outs)[k]'hi1),((Y2 r.stamp).1),(Qq ((Qr g r.op).1) r.key r.val).1,(Qq ((Qr g r.op).1) r.key r.val).2.1⟩ : Record)).toArray]) (css:=[[.int .i64 ((⟨((((Qr g r.op).1).outs)[k]'hi1),((Y2 r.stamp).1),(Qq ((Qr g r.op).1) r.key r.val).1,(Qq ((Qr g r.op).1) r.key r.val).2.1⟩ : Record).op),.int .i64 (((⟨((((Qr g r.op).1).outs)[k]'hi1),((Y2 r.stamp).1),(Qq ((Qr g r.op).1) r.key r.val).1,(Qq ((Qr g r.op).1) r.key r.val).2.1⟩ : Record).stamp).epoch),.int .i64 (((⟨((((Qr g r.op).1).outs)[k]'hi1),((Y2 r.stamp).1),(Qq ((Qr g r.op).1) r.key r.val).1,(Qq ((Qr g r.op).1) r.key r.val).2.1⟩ : Record).stamp).turn),.int .i64 ((⟨((((Qr g r.op).1).outs)[k]'hi1),((Y2 r.stamp).1),(Qq ((Qr g r.op).1) r.key r.val).1,(Qq ((Qr g r.op).1) r.key r.val).2.1⟩ : Record).key),.int .i64 ((⟨((((Qr g r.op).1).outs)[k]'hi1),((Y2 r.stamp).1),(Qq ((Qr g r.op).1) r.key r.val).1,(Qq ((Qr g r.op).1) r.key r.val).2.1⟩ : Record).val)]]) Kn Z Z ⟨⟨Z,Z⟩,trivial⟩ Z Z (fun b8 w24 e16 s8 h8=>?_)))))))
        replace h8 : Blk w24 b8 [.int .i64 ((⟨((((Qr g r.op).1).outs)[k]'hi1),((Y2 r.stamp).1),(Qq ((Qr g r.op).1) r.key r.val).1,(Qq ((Qr g r.op).1) r.key r.val).2.1⟩ : Record).op),.int .i64 (((⟨((((Qr g r.op).1).outs)[k]'hi1),((Y2 r.stamp).1),(Qq ((Qr g r.op).1) r.key r.val).1,(Qq ((Qr g r.op).1) r.key r.val).2.1⟩ : Record).stamp).epoch),.int .i64 (((⟨((((Qr g r.op).1).outs)[k]'hi1),((Y2 r.stamp).1),(Qq ((Qr g r.op).1) r.key r.val).1,(Qq ((Qr g r.op).1) r.key r.val).2.1⟩ : Record).stamp).turn),.int .i64 ((⟨((((Qr g r.op).1).outs)[k]'hi1),((Y2 r.stamp).1),(Qq ((Qr g r.op).1) r.key r.val).1,(Qq ((Qr g r.op).1) r.key r.val).2.1⟩ : Record).key),.int .i64 ((⟨((((Qr g r.op).1).outs)[k]'hi1),((Y2 r.stamp).1),(Qq ((Qr g r.op).1) r.key r.val).1,(Qq ((Qr g r.op).1) r.key r.val).2.1⟩ : Record).val)]:=h8
        have g_b8 : w.heap.size ≤ b8:=by have:=E.size;omega
        have y_b8:=h8.lt
        replace E:=E.trans e16;replace h1:=h1.ext e16;replace h2:=h2.ext e16;replace ho1:=ho1.ext e16;replace hw1:=hw1.ext e16;replace h5:=h5.ext e16;replace ho5:=ho5.ext e16;replace h6:=h6.ext e16;replace h7:=h7.ext e16;replace hvo:=hvo.ext e16
        have z23:=e16.size
        refine Gb ?_
        refine Bt Z ?_
        refine Gp Kn Z Z hvo (Src.ofBlk h8 Z) Z (by first | (simp only [Yb,List.length_nil,List.length_cons];simp only [Enc.sz];omega) | (have h:=Hv g r k;rw [Yb];simp only [show Enc.sz Record = 5 from Z,List.length_cons,List.length_nil];omega)) (by decide) (by omega) (by omega) Z Z (fun v3 w25 m6 ho6 hb1=>?_)
        have hn1 : ∀ g,Value.ownBlock v3 = some g → g = b4 ∨ w21.heap.size ≤ g:=fun g hg=>(hb1 g hg).elim (fun h=>hvn g h) (fun h=>by omega)
        replace E:=E.step m6 (fun g hg=>by have:=Own.blk hvo g hg;have:=hvn g hg;omega);replace h1:=h1.mod m6 (fun g hg=>by have:=Own.blk hvo g hg;have:=hvn g hg;omega);replace h2:=h2.mod m6 (fun g hg=>by have:=Own.blk hvo g hg;have:=hvn g hg;omega);replace ho1:=ho1.mod m6 (fun g hg=>by have:=Own.blk hvo g hg;have:=hvn g hg;omega);replace hw1:=hw1.mod m6 (fun g hg=>by have:=Own.blk hvo g hg;have:=hvn g hg;omega);replace h5:=h5.mod m6 (fun g hg=>by have:=Own.blk hvo g hg;have:=hvn g hg;omega);replace ho5:=ho5.mod m6 (fun g hg=>by have:=Own.blk hvo g hg;have:=hvn g hg;omega);replace h6:=h6.mod m6 (fun g hg=>by have:=Own.blk hvo g hg;have:=hvn g hg;omega);replace h7:=h7.mod m6 (fun g hg=>by have:=Own.blk hvo g hg;have:=hvn g hg;omega)
        have z24:=m6.size
        refine T3 ?_
        refine Qa (Qe Z) Z (Qd (Q4 (Yr (Qh [true,true,true] Z Z (Qa (Qc Z) Z (Qa (Q8 Z Z (Yt hc7n (Own.rd (by decide) hw1).1)) Z (Qa (Qe Z) Z (Qd (Q4 (Yc (k + 1,v3) (by dsimp only;omega) ⟨Z,Z,Z,Z,Z,Z,Z,Z,Z,Z,trivial⟩ ⟨E,(by omega),h1,h2,ho1,hw1,h5,ho5,h6,h7,(by omega),Own.fin ho6 (Nat.le_refl _) (by omega) (Tc (by rw [hstm]) (by rw [hstm];exact not_f hc6) hx (by omega)),hn1⟩))))))))))
       ·have hc7n : ¬ k < (((Qr g r.op).1).outs).length:=by first | (have h:=of_decide_eq_false hc7;omega) | (have h:=hc7;simp at h;omega)
        refine Yn (Q5 (Q3 ?_))
        refine Qf (Qh [true,true,true,true,true] Z Z (Qa (Qc Z) Z (Qa (Qc Z) Z (Qa (Qe Z) Z (Qa (Qe Z) Z (Qa (Qe Z) Z (Qd (Qw (Y5 (l:=[.tmp 6,.tmp 7,.tmp 8]) (vs:=[v2,vo,.bool true]) Z ⟨.tmp Z,.tmp Z,.tmp Z,trivial⟩ Z E ?_)))))))))
        rw [st_3 hc1 hx hc2 hc4]
        exact ⟨_,_,Z,Own.fin ho5 (by omega) (by omega) (by first | rfl | (simp only [List.nil_append];done)),Own.fin hvo (by omega) (by omega) (by rw [show ((Qr g r.op).1).outs.length = k from by omega]),⟨⟨(fun g hg he=>by have:=Own.blk ho5 g hg;have:=Own.blk hvo g he;have:=hvn g he;omega),trivial⟩,⟨trivial,trivial⟩⟩⟩
     ·have hstm:=stamp_o hx hc5
      refine Qn (Qf (Qf (Qh [true] Z Z (Qa (Qe Z) Z (Qd (Q0 (Ym (fun (xq : Nat × Value)=>let ⟨k,vo⟩:=xq;[(6,.slice none 0 0),(7,.slice none 0 0),(8,.bool false),(9,v2),(10,vo),(11,.pointer (some ⟨b5,0,none⟩)),(13,.int .i64 ((Qq ((Qr g r.op).1) r.key r.val).1)),(14,.int .i64 ((Qq ((Qr g r.op).1) r.key r.val).2.1)),(18,.pointer (some ⟨b6,0,none⟩)),(21,.int .i64 ((k : Nat) : Int))]) (fun (xq : Nat × Value) w'=>let ⟨k,vo⟩:=xq;Ext w w' ∧ w17.heap.size ≤ w'.heap.size ∧ Blk w' b1 ([o1,.int .i64 g.workers,.int .i64 g.cap]) ∧ Blk w' b2 (Enc.enc r) ∧ Own w' b3 w4.heap.size 4 v1 ([] ++ List.flatMap (Enc.enc (α:=Cell)) cs) ∧ Own w' w5.heap.size w6.heap.size 1 o2 (List.flatMap (Enc.enc (α:=Int)) (((Qr g r.op).1).outs)) ∧ Blk w' b5 [.int .i64 (((Qr g r.op).1).kind),.int .i64 (((Qr g r.op).1).a),.int .i64 (((Qr g r.op).1).b),o2] ∧ Own w' w14.heap.size w15.heap.size 4 v2 (List.flatMap (Enc.enc (α:=Cell)) ((X4 (((Qr g r.op).1).kind) cs (⟨r.op,r.stamp.epoch,r.key,r.val⟩ : Cell)).1)) ∧ Blk w' b6 [.int .i64 r.stamp.epoch,.int .i64 r.stamp.turn] ∧ k ≤ ((Qr g r.op).1).outs.length ∧ Own w' b4 w'.heap.size 5 vo (List.flatMap (Enc.enc (α:=Record)) (V4 g r k)) ∧ (∀ g,Value.ownBlock vo = some g → g = b4 ∨ w17.heap.size ≤ g)) (fun (xq : Nat × Value)=>let ⟨k,vo⟩:=xq;((Qr g r.op).1).outs.length - k) (0,.slice (some ⟨b4,0,none⟩) 0 0) ⟨Z,Z,Z,Z,Z,Z,Z,Z,Z,Z,trivial⟩ ⟨E,Nat.le_refl _,h1,h2,ho1,hw1,h5,ho5,h6,Nat.zero_le _,Own.fin (Own.ofBlk (lo:=b4) (hi:=b4 + 1) (sz:=5) h4 (Nat.le_refl _) (Nat.lt_succ_self _) (by simp) (by simp [maxLen])) (by omega) (by omega) out_zero.symm,(fun g hg=>.inl (by cases hg;rfl))⟩ ?_)))))))
      clear E h1 h2 ho1 h4 hw1 h5 ho5 h6
      rintro ⟨k,vo⟩ w26 ⟨E,z25,h1,h2,ho1,hw1,h5,ho5,h6,hk,hvo,hvn⟩
      refine Q7 [(6,.slice none 0 0),(7,.slice none 0 0),(8,.bool false),(9,v2),(10,vo),(11,.pointer (some ⟨b5,0,none⟩)),(13,.int .i64 ((Qq ((Qr g r.op).1) r.key r.val).1)),(14,.int .i64 ((Qq ((Qr g r.op).1) r.key r.val).2.1)),(18,.pointer (some ⟨b6,0,none⟩)),(21,.int .i64 ((k : Nat) : Int))] ⟨Z,Z,Z,Z,Z,Z,Z,Z,Z,Z,trivial⟩ ?_
      refine Qf (Qf (Qh [true,true,true,true,true] Z Z (Qa (Qc Z) Z (Qa (Qb Y8 Z) Z (Qa (Qj Ke Z (h5.one 3 Z)) Z (Qa (Ya Tryz.underlying66 Z (Own.len (by decide) hw1)) Z (Qa (Yf Z Z) Z (Qd (Qs Z (fun hc8=>?_) (fun hc8=>?_))))))))))
      ·have hc8n : k < (((Qr g r.op).1).outs).length:=by first | (have h:=of_decide_eq_true hc8;omega) | (have h:=hc8;simp at h;omega)
       refine Qn (Qf (Q0 (Hp Xi [11] [(0,true),(1,true),(2,true),(3,true),(4,true),(5,true),(6,true),(7,true),(8,true),(9,true),(10,false)] [(11,false),(12,true)] (by decide +kernel) Z Z (fun w27 e17=>?_))))
       replace E:=E.trans e17;replace h1:=h1.ext e17;replace h2:=h2.ext e17;replace ho1:=ho1.ext e17;replace hw1:=hw1.ext e17;replace h5:=h5.ext e17;replace ho5:=ho5.ext e17;replace h6:=h6.ext e17;replace hvo:=hvo.ext e17
       have z26:=e17.size
       refine Qa (Qc Z) Z (Qa (Qb Y8 Z) Z (Qa (Qj Ke Z (h5.one 3 Z)) Z (Qa (Qc Z) Z ?_)))
       have hi2 : k < (((Qr g r.op).1).outs).length:=(by first | assumption | omega | (simp only [List.length_set];first | assumption | omega))
       refine Qa (Q1 (i:=k) Uv Z Z (Own.rd (by decide) hw1) hi2) Z (Qa (Qj Yo Z (((Own.rd (by decide) hw1).get hi2).one 0 Z)) Z (Qa (Qt Kb Z h6.at Z) Z (Qa (Qc Z) Z (Qa (Qc Z) Z (Qa (Gs (⟨((((Qr g r.op).1).outs)[k]'hi2),r.stamp,(Qq ((Qr g r.op).1) r.key r.val).1,(Qq ((Qr g r.op).1) r.key r.val).2.1⟩ : Record) Z (fun _=>by kernel_rfl)) Z (Yz (vs:=[.agg (Enc.enc (⟨((((Qr g r.op).1).outs)[k]'hi2),r.stamp,(Qq ((Qr g r.op).1) r.key r.val).1,(Qq ((Qr g r.op).1) r.key r.val).2.1⟩ : Record)).toArray]) (css:=[[.int .i64 ((⟨((((Qr g r.op).1).outs)[k]'hi2),r.stamp,(Qq ((Qr g r.op).1) r.key r.val).1,(Qq ((Qr g r.op).1) r.key r.val).2.1⟩ : Record).op),.int .i64 (((⟨((((Qr g r.op).1).outs)[k]'hi2),r.stamp,(Qq ((Qr g r.op).1) r.key r.val).1,(Qq ((Qr g r.op).1) r.key r.val).2.1⟩ : Record).stamp).epoch),.int .i64 (((⟨((((Qr g r.op).1).outs)[k]'hi2),r.stamp,(Qq ((Qr g r.op).1) r.key r.val).1,(Qq ((Qr g r.op).1) r.key r.val).2.1⟩ : Record).stamp).turn),.int .i64 ((⟨((((Qr g r.op).1).outs)[k]'hi2),r.stamp,(Qq ((Qr g r.op).1) r.key r.val).1,(Qq ((Qr g r.op).1) r.key r.val).2.1⟩ : Record).key),.int .i64 ((⟨((((Qr g r.op).1).outs)[k]'hi2),r.stamp,(Qq ((Qr g r.op).1) r.key r.val).1,(Qq ((Qr g r.op).1) r.key r.val).2.1⟩ : Record).val)]]) Kn Z Z ⟨⟨Z,Z⟩,trivial⟩ Z Z (fun b9 w28 e18 s9 h9=>?_)))))))
       replace h9 : Blk w28 b9 [.int .i64 ((⟨((((Qr g r.op).1).outs)[k]'hi2),r.stamp,(Qq ((Qr g r.op).1) r.key r.val).1,(Qq ((Qr g r.op).1) r.key r.val).2.1⟩ : Record).op),.int .i64 (((⟨((((Qr g r.op).1).outs)[k]'hi2),r.stamp,(Qq ((Qr g r.op).1) r.key r.val).1,(Qq ((Qr g r.op).1) r.key r.val).2.1⟩ : Record).stamp).epoch),.int .i64 (((⟨((((Qr g r.op).1).outs)[k]'hi2),r.stamp,(Qq ((Qr g r.op).1) r.key r.val).1,(Qq ((Qr g r.op).1) r.key r.val).2.1⟩ : Record).stamp).turn),.int .i64 ((⟨((((Qr g r.op).1).outs)[k]'hi2),r.stamp,(Qq ((Qr g r.op).1) r.key r.val).1,(Qq ((Qr g r.op).1) r.key r.val).2.1⟩ : Record).key),.int .i64 ((⟨((((Qr g r.op).1).outs)[k]'hi2),r.stamp,(Qq ((Qr g r.op).1) r.key r.val).1,(Qq ((Qr g r.op).1) r.key r.val).2.1⟩ : Record).val)]:=h9
       have g_b9 : w.heap.size ≤ b9:=by have:=E.size;omega
       have y_b9:=h9.lt
       replace E:=E.trans e18;replace h1:=h1.ext e18;replace h2:=h2.ext e18;replace ho1:=ho1.ext e18;replace hw1:=hw1.ext e18;replace h5:=h5.ext e18;replace ho5:=ho5.ext e18;replace h6:=h6.ext e18;replace hvo:=hvo.ext e18
       have z27:=e18.size
       refine Gb ?_
       refine Bt Z ?_
       refine Gp Kn Z Z hvo (Src.ofBlk h9 Z) Z (by first | (simp only [Yb,List.length_nil,List.length_cons];simp only [Enc.sz];omega) | (have h:=Hv g r k;rw [Yb];simp only [show Enc.sz Record = 5 from Z,List.length_cons,List.length_nil];omega)) (by decide) (by omega) (by omega) Z Z (fun v4 w29 m7 ho7 hb2=>?_)
       have hn2 : ∀ g,Value.ownBlock v4 = some g → g = b4 ∨ w17.heap.size ≤ g:=fun g hg=>(hb2 g hg).elim (fun h=>hvn g h) (fun h=>by omega)
       replace E:=E.step m7 (fun g hg=>by have:=Own.blk hvo g hg;have:=hvn g hg;omega);replace h1:=h1.mod m7 (fun g hg=>by have:=Own.blk hvo g hg;have:=hvn g hg;omega);replace h2:=h2.mod m7 (fun g hg=>by have:=Own.blk hvo g hg;have:=hvn g hg;omega);replace ho1:=ho1.mod m7 (fun g hg=>by have:=Own.blk hvo g hg;have:=hvn g hg;omega);replace hw1:=hw1.mod m7 (fun g hg=>by have:=Own.blk hvo g hg;have:=hvn g hg;omega);replace h5:=h5.mod m7 (fun g hg=>by have:=Own.blk hvo g hg;have:=hvn g hg;omega);replace ho5:=ho5.mod m7 (fun g hg=>by have:=Own.blk hvo g hg;have:=hvn g hg;omega);replace h6:=h6.mod m7 (fun g hg=>by have:=Own.blk hvo g hg;have:=hvn g hg;omega)
       have z28:=m7.size
       refine T3 ?_
       refine Qa (Qe Z) Z (Qd (Q4 (Yr (Qh [true,true,true] Z Z (Qa (Qc Z) Z (Qa (Q8 Z Z (Yt hc8n (Own.rd (by decide) hw1).1)) Z (Qa (Qe Z) Z (Qd (Q4 (Yc (k + 1,v4) (by dsimp only;omega) ⟨Z,Z,Z,Z,Z,Z,Z,Z,Z,Z,trivial⟩ ⟨E,(by omega),h1,h2,ho1,hw1,h5,ho5,h6,(by omega),Own.fin ho7 (Nat.le_refl _) (by omega) (Tc (by rw [hstm]) (by rw [hstm]) hx (by omega)),hn2⟩))))))))))
      ·have hc8n : ¬ k < (((Qr g r.op).1).outs).length:=by first | (have h:=of_decide_eq_false hc8;omega) | (have h:=hc8;simp at h;omega)
       refine Yn (Q5 (Q3 ?_))
       refine Qf (Qh [true,true,true,true,true] Z Z (Qa (Qc Z) Z (Qa (Qc Z) Z (Qa (Qe Z) Z (Qa (Qe Z) Z (Qa (Qe Z) Z (Qd (Qw (Y5 (l:=[.tmp 6,.tmp 7,.tmp 8]) (vs:=[v2,vo,.bool true]) Z ⟨.tmp Z,.tmp Z,.tmp Z,trivial⟩ Z E ?_)))))))))
       rw [st_3 hc1 hx hc2 hc4]
       exact ⟨_,_,Z,Own.fin ho5 (by omega) (by omega) (by first | rfl | (simp only [List.nil_append];done)),Own.fin hvo (by omega) (by omega) (by rw [show ((Qr g r.op).1).outs.length = k from by omega]),⟨⟨(fun g hg he=>by have:=Own.blk ho5 g hg;have:=Own.blk hvo g he;have:=hvn g he;omega),trivial⟩,⟨trivial,trivial⟩⟩⟩
   ·refine Qn (Qf (Qh [true,true,false,false] Z Z (Qa (Qb Kx Z) Z (Qa (Qt Kb Z (h2.part 1 [.int .i64 r.stamp.epoch,.int .i64 r.stamp.turn] Z) Z) Z (Yk Kb Z (fun b10 w30 e19 s10 h10=>?_))))))
    have g_b10 : w.heap.size ≤ b10:=by have:=E.size;omega
    have y_b10:=h10.lt
    replace E:=E.trans e19;replace h1:=h1.ext e19;replace h2:=h2.ext e19;replace ho1:=ho1.ext e19;replace h4:=h4.ext e19;replace hw1:=hw1.ext e19;replace h5:=h5.ext e19
    have z29:=e19.size
    refine Q6 (cs':=[.int .i64 r.stamp.epoch,.int .i64 r.stamp.turn]) Kb Z Z Z Z h10 (Nat.le_of_ble_eq_true Z) Z (fun w31 m8 h10'=>?_)
    replace h10:=h10'
    replace E:=E.step m8 (fun g hg=>by cases hg;omega);replace h1:=h1.mod m8 (fun g hg=>by cases hg;omega);replace h2:=h2.mod m8 (fun g hg=>by cases hg;omega);replace ho1:=ho1.mod m8 (fun g hg=>by cases hg;omega);replace h4:=h4.mod m8 (fun g hg=>by cases hg;omega);replace hw1:=hw1.mod m8 (fun g hg=>by cases hg;omega);replace h5:=h5.mod m8 (fun g hg=>by cases hg;omega)
    have z30:=m8.size
    refine Qd (Qf (Qf (Qh [true,true,true] Z Z (Qa (Qb Xk Z) Z (Qa (Qj Yo Z (h5.one 0 Z)) Z (Qa (Y6 Z Z) Z (Qd (Qs Z (fun hc9=>?_) (fun hc9=>?_)))))))))
    ·have hstm:=stamp_7 hx hc9
     refine Qf (Qh [true,false,true,true,true,false,false,true] Z Z (Qa (Qt Kb Z h10.at Z) Z (Qv Tryz.call99 Z (s_NextTurn r.stamp _ ) Z (fun _ w32 e20 hv=>?_))))
     subst hv
     replace E:=E.trans e20;replace h1:=h1.ext e20;replace h2:=h2.ext e20;replace ho1:=ho1.ext e20;replace h4:=h4.ext e20;replace hw1:=hw1.ext e20;replace h5:=h5.ext e20;replace h10:=h10.ext e20
     have z31:=e20.size
     refine Qa (Qc Z) Z (Qa (Yv Z Z) Z (Qa (Yv Z Z) Z (Yk Kb Z (fun b11 w33 e21 s11 h11=>?_))))
     have g_b11 : w.heap.size ≤ b11:=by have:=E.size;omega
     have y_b11:=h11.lt
     replace E:=E.trans e21;replace h1:=h1.ext e21;replace h2:=h2.ext e21;replace ho1:=ho1.ext e21;replace h4:=h4.ext e21;replace hw1:=hw1.ext e21;replace h5:=h5.ext e21;replace h10:=h10.ext e21
     have z32:=e21.size
     refine Q6 (cs':=[.int .i64 (((Y2 r.stamp).1).epoch),.int .i64 (((Y2 r.stamp).1).turn)]) Kb Z Z Z Z h11 (Nat.le_of_ble_eq_true Z) Z (fun w34 m9 h11'=>?_)
     replace h11:=h11'
     replace E:=E.step m9 (fun g hg=>by cases hg;omega);replace h1:=h1.mod m9 (fun g hg=>by cases hg;omega);replace h2:=h2.mod m9 (fun g hg=>by cases hg;omega);replace ho1:=ho1.mod m9 (fun g hg=>by cases hg;omega);replace h4:=h4.mod m9 (fun g hg=>by cases hg;omega);replace hw1:=hw1.mod m9 (fun g hg=>by cases hg;omega);replace h5:=h5.mod m9 (fun g hg=>by cases hg;omega);replace h10:=h10.mod m9 (fun g hg=>by cases hg;omega)
     have z33:=m9.size
     refine Qa (Qe Z) Z (Qd (Qf (Qf (Qh [true,true] Z Z (Qa (Qc Z) Z (Qa (Yq Z) Z (Qd (Qs Z (fun hc10=>?_) (fun hc10=>?_)))))))))
     ·refine Qf (Qh [true,true,true,true,true] Z Z (Qa (Qc Z) Z (Qa (Qc Z) Z (Qa (Qe Z) Z (Qa (Qe Z) Z (Qa (Qe Z) Z (Qd (Qw (Y5 (l:=[.tmp 6,.tmp 7,.tmp 8]) (vs:=[v1,.slice (some ⟨b4,0,none⟩) 0 0,.bool true]) Z ⟨.tmp Z,.tmp Z,.tmp Z,trivial⟩ Z E ?_)))))))))
      rw [st_3 hc1 hx hc2 (by rw [A4 hc3];rfl),A4 hc3,out_no (by rw [hstm];exact not_t hc10)]
      exact ⟨_,_,Z,Own.fin ho1 (by omega) (by omega) (by first | rfl | (simp only [List.nil_append];done)),Own.fin (Own.ofBlk (lo:=b4) (hi:=b4 + 1) (sz:=5) h4 (Nat.le_refl _) (Nat.lt_succ_self _) (by rfl) (by unfold maxLen;omega)) (by omega) (by omega) (by first | rfl | (simp only [List.nil_append];done)),⟨⟨(Own.sep ho1 (Own.ofBlk (lo:=b4) (hi:=b4 + 1) (sz:=5) h4 (Nat.le_refl _) (Nat.lt_succ_self _) (by rfl) (by unfold maxLen;omega)) (by omega)),trivial⟩,⟨trivial,trivial⟩⟩⟩
     ·refine Qn (Qh [true,false] Z Z (Qa (Qt Kb Z h11.at Z) Z (Q6 (cs':=[.int .i64 (((Y2 r.stamp).1).epoch),.int .i64 (((Y2 r.stamp).1).turn)]) Kb Z Z Z Z h10 (Nat.le_of_ble_eq_true Z) Z (fun w35 m10 h10'=>?_))))
      replace h10:=h10'
      replace E:=E.step m10 (fun g hg=>by cases hg;omega);replace h1:=h1.mod m10 (fun g hg=>by cases hg;omega);replace h2:=h2.mod m10 (fun g hg=>by cases hg;omega);replace ho1:=ho1.mod m10 (fun g hg=>by cases hg;omega);replace h4:=h4.mod m10 (fun g hg=>by cases hg;omega);replace hw1:=hw1.mod m10 (fun g hg=>by cases hg;omega);replace h5:=h5.mod m10 (fun g hg=>by cases hg;omega);replace h11:=h11.mod m10 (fun g hg=>by cases hg;omega)
      have z34:=m10.size
      refine Qd (Qf (Qf (Qh [true] Z Z (Qa (Qe Z) Z (Qd (Q0 (Ym (fun (xq : Nat × Value)=>let ⟨k,vo⟩:=xq;[(6,.slice none 0 0),(7,.slice none 0 0),(8,.bool false),(9,v1),(10,vo),(11,.pointer (some ⟨b5,0,none⟩)),(13,.int .i64 ((Qq ((Qr g r.op).1) r.key r.val).1)),(14,.int .i64 ((Qq ((Qr g r.op).1) r.key r.val).2.1)),(18,.pointer (some ⟨b10,0,none⟩)),(21,.int .i64 ((k : Nat) : Int))]) (fun (xq : Nat × Value) w'=>let ⟨k,vo⟩:=xq;Ext w w' ∧ w35.heap.size ≤ w'.heap.size ∧ Blk w' b1 ([o1,.int .i64 g.workers,.int .i64 g.cap]) ∧ Blk w' b2 (Enc.enc r) ∧ Own w' b3 w4.heap.size 4 v1 ([] ++ List.flatMap (Enc.enc (α:=Cell)) cs) ∧ Own w' w5.heap.size w6.heap.size 1 o2 (List.flatMap (Enc.enc (α:=Int)) (((Qr g r.op).1).outs)) ∧ Blk w' b5 [.int .i64 (((Qr g r.op).1).kind),.int .i64 (((Qr g r.op).1).a),.int .i64 (((Qr g r.op).1).b),o2] ∧ Blk w' b10 [.int .i64 (((Y2 r.stamp).1).epoch),.int .i64 (((Y2 r.stamp).1).turn)] ∧ Blk w' b11 [.int .i64 (((Y2 r.stamp).1).epoch),.int .i64 (((Y2 r.stamp).1).turn)] ∧ k ≤ ((Qr g r.op).1).outs.length ∧ Own w' b4 w'.heap.size 5 vo (List.flatMap (Enc.enc (α:=Record)) (V4 g r k)) ∧ (∀ g,Value.ownBlock vo = some g → g = b4 ∨ w35.heap.size ≤ g)) (fun (xq : Nat × Value)=>let ⟨k,vo⟩:=xq;((Qr g r.op).1).outs.length - k) (0,.slice (some ⟨b4,0,none⟩) 0 0) ⟨Z,Z,Z,Z,Z,Z,Z,Z,Z,Z,trivial⟩ ⟨E,Nat.le_refl _,h1,h2,ho1,hw1,h5,h10,h11,Nat.zero_le _,Own.fin (Own.ofBlk (lo:=b4) (hi:=b4 + 1) (sz:=5) h4 (Nat.le_refl _) (Nat.lt_succ_self _) (by simp) (by simp [maxLen])) (by omega) (by omega) out_zero.symm,(fun g hg=>.inl (by cases hg;rfl))⟩ ?_)))))))
      clear E h1 h2 ho1 h4 hw1 h5 h10 h11
      rintro ⟨k,vo⟩ w36 ⟨E,z35,h1,h2,ho1,hw1,h5,h10,h11,hk,hvo,hvn⟩
      refine Q7 [(6,.slice none 0 0),(7,.slice none 0 0),(8,.bool false),(9,v1),(10,vo),(11,.pointer (some ⟨b5,0,none⟩)),(13,.int .i64 ((Qq ((Qr g r.op).1) r.key r.val).1)),(14,.int .i64 ((Qq ((Qr g r.op).1) r.key r.val).2.1)),(18,.pointer (some ⟨b10,0,none⟩)),(21,.int .i64 ((k : Nat) : Int))] ⟨Z,Z,Z,Z,Z,Z,Z,Z,Z,Z,trivial⟩ ?_
      refine Qf (Qf (Qh [true,true,true,true,true] Z Z (Qa (Qc Z) Z (Qa (Qb Y8 Z) Z (Qa (Qj Ke Z (h5.one 3 Z)) Z (Qa (Ya Tryz.underlying66 Z (Own.len (by decide) hw1)) Z (Qa (Yf Z Z) Z (Qd (Qs Z (fun hc11=>?_) (fun hc11=>?_))))))))))
      ·have hc11n : k < (((Qr g r.op).1).outs).length:=by first | (have h:=of_decide_eq_true hc11;omega) | (have h:=hc11;simp at h;omega)
       refine Qn (Qf (Q0 (Hp Xi [11] [(0,true),(1,true),(2,true),(3,true),(4,true),(5,true),(6,true),(7,true),(8,true),(9,true),(10,false)] [(11,false),(12,true)] (by decide +kernel) Z Z (fun w37 e22=>?_))))
       replace E:=E.trans e22;replace h1:=h1.ext e22;replace h2:=h2.ext e22;replace ho1:=ho1.ext e22;replace hw1:=hw1.ext e22;replace h5:=h5.ext e22;replace h10:=h10.ext e22;replace h11:=h11.ext e22;replace hvo:=hvo.ext e22
       have z36:=e22.size
       refine Qa (Qc Z) Z (Qa (Qb Y8 Z) Z (Qa (Qj Ke Z (h5.one 3 Z)) Z (Qa (Qc Z) Z ?_)))
       have hi3 : k < (((Qr g r.op).1).outs).length:=(by first | assumption | omega | (simp only [List.length_set];first | assumption | omega))
       refine Qa (Q1 (i:=k) Uv Z Z (Own.rd (by decide) hw1) hi3) Z (Qa (Qj Yo Z (((Own.rd (by decide) hw1).get hi3).one 0 Z)) Z (Qa (Qt Kb Z h10.at Z) Z (Qa (Qc Z) Z (Qa (Qc Z) Z (Qa (Gs (⟨((((Qr g r.op).1).outs)[k]'hi3),((Y2 r.stamp).1),(Qq ((Qr g r.op).1) r.key r.val).1,(Qq ((Qr g r.op).1) r.key r.val).2.1⟩ : Record) Z (fun _=>by kernel_rfl)) Z (Yz (vs:=[.agg (Enc.enc (⟨((((Qr g r.op).1).outs)[k]'hi3),((Y2 r.stamp).1),(Qq ((Qr g r.op).1) r.key r.val).1,(Qq ((Qr g r.op).1) r.key r.val).2.1⟩ : Record)).toArray]) (css:=[[.int .i64 ((⟨((((Qr g r.op).1).outs)[k]'hi3),((Y2 r.stamp).1),(Qq ((Qr g r.op).1) r.key r.val).1,(Qq ((Qr g r.op).1) r.key r.val).2.1⟩ : Record).op),.int .i64 (((⟨((((Qr g r.op).1).outs)[k]'hi3),((Y2 r.stamp).1),(Qq ((Qr g r.op).1) r.key r.val).1,(Qq ((Qr g r.op).1) r.key r.val).2.1⟩ : Record).stamp).epoch),.int .i64 (((⟨((((Qr g r.op).1).outs)[k]'hi3),((Y2 r.stamp).1),(Qq ((Qr g r.op).1) r.key r.val).1,(Qq ((Qr g r.op).1) r.key r.val).2.1⟩ : Record).stamp).turn),.int .i64 ((⟨((((Qr g r.op).1).outs)[k]'hi3),((Y2 r.stamp).1),(Qq ((Qr g r.op).1) r.key r.val).1,(Qq ((Qr g r.op).1) r.key r.val).2.1⟩ : Record).key),.int .i64 ((⟨((((Qr g r.op).1).outs)[k]'hi3),((Y2 r.stamp).1),(Qq ((Qr g r.op).1) r.key r.val).1,(Qq ((Qr g r.op).1) r.key r.val).2.1⟩ : Record).val)]]) Kn Z Z ⟨⟨Z,Z⟩,trivial⟩ Z Z (fun b12 w38 e23 s12 h12=>?_)))))))
       replace h12 : Blk w38 b12 [.int .i64 ((⟨((((Qr g r.op).1).outs)[k]'hi3),((Y2 r.stamp).1),(Qq ((Qr g r.op).1) r.key r.val).1,(Qq ((Qr g r.op).1) r.key r.val).2.1⟩ : Record).op),.int .i64 (((⟨((((Qr g r.op).1).outs)[k]'hi3),((Y2 r.stamp).1),(Qq ((Qr g r.op).1) r.key r.val).1,(Qq ((Qr g r.op).1) r.key r.val).2.1⟩ : Record).stamp).epoch),.int .i64 (((⟨((((Qr g r.op).1).outs)[k]'hi3),((Y2 r.stamp).1),(Qq ((Qr g r.op).1) r.key r.val).1,(Qq ((Qr g r.op).1) r.key r.val).2.1⟩ : Record).stamp).turn),.int .i64 ((⟨((((Qr g r.op).1).outs)[k]'hi3),((Y2 r.stamp).1),(Qq ((Qr g r.op).1) r.key r.val).1,(Qq ((Qr g r.op).1) r.key r.val).2.1⟩ : Record).key),.int .i64 ((⟨((((Qr g r.op).1).outs)[k]'hi3),((Y2 r.stamp).1),(Qq ((Qr g r.op).1) r.key r.val).1,(Qq ((Qr g r.op).1) r.key r.val).2.1⟩ : Record).val)]:=h12
       have g_b12 : w.heap.size ≤ b12:=by have:=E.size;omega
       have y_b12:=h12.lt
       replace E:=E.trans e23;replace h1:=h1.ext e23;replace h2:=h2.ext e23;replace ho1:=ho1.ext e23;replace hw1:=hw1.ext e23;replace h5:=h5.ext e23;replace h10:=h10.ext e23;replace h11:=h11.ext e23;replace hvo:=hvo.ext e23
       have z37:=e23.size
       refine Gb ?_
       refine Bt Z ?_
       refine Gp Kn Z Z hvo (Src.ofBlk h12 Z) Z (by first | (simp only [Yb,List.length_nil,List.length_cons];simp only [Enc.sz];omega) | (have h:=Hv g r k;rw [Yb];simp only [show Enc.sz Record = 5 from Z,List.length_cons,List.length_nil];omega)) (by decide) (by omega) (by omega) Z Z (fun v5 w39 m11 ho8 hb3=>?_)
       have hn3 : ∀ g,Value.ownBlock v5 = some g → g = b4 ∨ w35.heap.size ≤ g:=fun g hg=>(hb3 g hg).elim (fun h=>hvn g h) (fun h=>by omega)
       replace E:=E.step m11 (fun g hg=>by have:=Own.blk hvo g hg;have:=hvn g hg;omega);replace h1:=h1.mod m11 (fun g hg=>by have:=Own.blk hvo g hg;have:=hvn g hg;omega);replace h2:=h2.mod m11 (fun g hg=>by have:=Own.blk hvo g hg;have:=hvn g hg;omega);replace ho1:=ho1.mod m11 (fun g hg=>by have:=Own.blk hvo g hg;have:=hvn g hg;omega);replace hw1:=hw1.mod m11 (fun g hg=>by have:=Own.blk hvo g hg;have:=hvn g hg;omega);replace h5:=h5.mod m11 (fun g hg=>by have:=Own.blk hvo g hg;have:=hvn g hg;omega);replace h10:=h10.mod m11 (fun g hg=>by have:=Own.blk hvo g hg;have:=hvn g hg;omega);replace h11:=h11.mod m11 (fun g hg=>by have:=Own.blk hvo g hg;have:=hvn g hg;omega)
       have z38:=m11.size
       refine T3 ?_
       refine Qa (Qe Z) Z (Qd (Q4 (Yr (Qh [true,true,true] Z Z (Qa (Qc Z) Z (Qa (Q8 Z Z (Yt hc11n (Own.rd (by decide) hw1).1)) Z (Qa (Qe Z) Z (Qd (Q4 (Yc (k + 1,v5) (by dsimp only;omega) ⟨Z,Z,Z,Z,Z,Z,Z,Z,Z,Z,trivial⟩ ⟨E,(by omega),h1,h2,ho1,hw1,h5,h10,h11,(by omega),Own.fin ho8 (Nat.le_refl _) (by omega) (Tc (by rw [hstm]) (by rw [hstm];exact not_f hc10) hx (by omega)),hn3⟩))))))))))
      ·have hc11n : ¬ k < (((Qr g r.op).1).outs).length:=by first | (have h:=of_decide_eq_false hc11;omega) | (have h:=hc11;simp at h;omega)
       refine Yn (Q5 (Q3 ?_))
       refine Qf (Qh [true,true,true,true,true] Z Z (Qa (Qc Z) Z (Qa (Qc Z) Z (Qa (Qe Z) Z (Qa (Qe Z) Z (Qa (Qe Z) Z (Qd (Qw (Y5 (l:=[.tmp 6,.tmp 7,.tmp 8]) (vs:=[v1,vo,.bool true]) Z ⟨.tmp Z,.tmp Z,.tmp Z,trivial⟩ Z E ?_)))))))))
       rw [st_3 hc1 hx hc2 (by rw [A4 hc3];rfl),A4 hc3]
       exact ⟨_,_,Z,Own.fin ho1 (by omega) (by omega) (by first | rfl | (simp only [List.nil_append];done)),Own.fin hvo (by omega) (by omega) (by rw [show ((Qr g r.op).1).outs.length = k from by omega]),⟨⟨(fun g hg he=>by have:=Own.blk ho1 g hg;have:=Own.blk hvo g he;have:=hvn g he;omega),trivial⟩,⟨trivial,trivial⟩⟩⟩
    ·have hstm:=stamp_o hx hc9
     refine Qn (Qf (Qf (Qh [true] Z Z (Qa (Qe Z) Z (Qd (Q0 (Ym (fun (xq : Nat × Value)=>let ⟨k,vo⟩:=xq;[(6,.slice none 0 0),(7,.slice none 0 0),(8,.bool false),(9,v1),(10,vo),(11,.pointer (some ⟨b5,0,none⟩)),(13,.int .i64 ((Qq ((Qr g r.op).1) r.key r.val).1)),(14,.int .i64 ((Qq ((Qr g r.op).1) r.key r.val).2.1)),(18,.pointer (some ⟨b10,0,none⟩)),(21,.int .i64 ((k : Nat) : Int))]) (fun (xq : Nat × Value) w'=>let ⟨k,vo⟩:=xq;Ext w w' ∧ w31.heap.size ≤ w'.heap.size ∧ Blk w' b1 ([o1,.int .i64 g.workers,.int .i64 g.cap]) ∧ Blk w' b2 (Enc.enc r) ∧ Own w' b3 w4.heap.size 4 v1 ([] ++ List.flatMap (Enc.enc (α:=Cell)) cs) ∧ Own w' w5.heap.size w6.heap.size 1 o2 (List.flatMap (Enc.enc (α:=Int)) (((Qr g r.op).1).outs)) ∧ Blk w' b5 [.int .i64 (((Qr g r.op).1).kind),.int .i64 (((Qr g r.op).1).a),.int .i64 (((Qr g r.op).1).b),o2] ∧ Blk w' b10 [.int .i64 r.stamp.epoch,.int .i64 r.stamp.turn] ∧ k ≤ ((Qr g r.op).1).outs.length ∧ Own w' b4 w'.heap.size 5 vo (List.flatMap (Enc.enc (α:=Record)) (V4 g r k)) ∧ (∀ g,Value.ownBlock vo = some g → g = b4 ∨ w31.heap.size ≤ g)) (fun (xq : Nat × Value)=>let ⟨k,vo⟩:=xq;((Qr g r.op).1).outs.length - k) (0,.slice (some ⟨b4,0,none⟩) 0 0) ⟨Z,Z,Z,Z,Z,Z,Z,Z,Z,Z,trivial⟩ ⟨E,Nat.le_refl _,h1,h2,ho1,hw1,h5,h10,Nat.zero_le _,Own.fin (Own.ofBlk (lo:=b4) (hi:=b4 + 1) (sz:=5) h4 (Nat.le_refl _) (Nat.lt_succ_self _) (by simp) (by simp [maxLen])) (by omega) (by omega) out_zero.symm,(fun g hg=>.inl (by cases hg;rfl))⟩ ?_)))))))
     clear E h1 h2 ho1 h4 hw1 h5 h10
     rintro ⟨k,vo⟩ w40 ⟨E,z39,h1,h2,ho1,hw1,h5,h10,hk,hvo,hvn⟩
     refine Q7 [(6,.slice none 0 0),(7,.slice none 0 0),(8,.bool false),(9,v1),(10,vo),(11,.pointer (some ⟨b5,0,none⟩)),(13,.int .i64 ((Qq ((Qr g r.op).1) r.key r.val).1)),(14,.int .i64 ((Qq ((Qr g r.op).1) r.key r.val).2.1)),(18,.pointer (some ⟨b10,0,none⟩)),(21,.int .i64 ((k : Nat) : Int))] ⟨Z,Z,Z,Z,Z,Z,Z,Z,Z,Z,trivial⟩ ?_
     refine Qf (Qf (Qh [true,true,true,true,true] Z Z (Qa (Qc Z) Z (Qa (Qb Y8 Z) Z (Qa (Qj Ke Z (h5.one 3 Z)) Z (Qa (Ya Tryz.underlying66 Z (Own.len (by decide) hw1)) Z (Qa (Yf Z Z) Z (Qd (Qs Z (fun hc12=>?_) (fun hc12=>?_))))))))))
     ·have hc12n : k < (((Qr g r.op).1).outs).length:=by first | (have h:=of_decide_eq_true hc12;omega) | (have h:=hc12;simp at h;omega)
      refine Qn (Qf (Q0 (Hp Xi [11] [(0,true),(1,true),(2,true),(3,true),(4,true),(5,true),(6,true),(7,true),(8,true),(9,true),(10,false)] [(11,false),(12,true)] (by decide +kernel) Z Z (fun w41 e24=>?_))))
      replace E:=E.trans e24;replace h1:=h1.ext e24;replace h2:=h2.ext e24;replace ho1:=ho1.ext e24;replace hw1:=hw1.ext e24;replace h5:=h5.ext e24;replace h10:=h10.ext e24;replace hvo:=hvo.ext e24
      have z40:=e24.size
      refine Qa (Qc Z) Z (Qa (Qb Y8 Z) Z (Qa (Qj Ke Z (h5.one 3 Z)) Z (Qa (Qc Z) Z ?_)))
      have hi4 : k < (((Qr g r.op).1).outs).length:=(by first | assumption | omega | (simp only [List.length_set];first | assumption | omega))
      refine Qa (Q1 (i:=k) Uv Z Z (Own.rd (by decide) hw1) hi4) Z (Qa (Qj Yo Z (((Own.rd (by decide) hw1).get hi4).one 0 Z)) Z (Qa (Qt Kb Z h10.at Z) Z (Qa (Qc Z) Z (Qa (Qc Z) Z (Qa (Gs (⟨((((Qr g r.op).1).outs)[k]'hi4),r.stamp,(Qq ((Qr g r.op).1) r.key r.val).1,(Qq ((Qr g r.op).1) r.key r.val).2.1⟩ : Record) Z (fun _=>by kernel_rfl)) Z (Yz (vs:=[.agg (Enc.enc (⟨((((Qr g r.op).1).outs)[k]'hi4),r.stamp,(Qq ((Qr g r.op).1) r.key r.val).1,(Qq ((Qr g r.op).1) r.key r.val).2.1⟩ : Record)).toArray]) (css:=[[.int .i64 ((⟨((((Qr g r.op).1).outs)[k]'hi4),r.stamp,(Qq ((Qr g r.op).1) r.key r.val).1,(Qq ((Qr g r.op).1) r.key r.val).2.1⟩ : Record).op),.int .i64 (((⟨((((Qr g r.op).1).outs)[k]'hi4),r.stamp,(Qq ((Qr g r.op).1) r.key r.val).1,(Qq ((Qr g r.op).1) r.key r.val).2.1⟩ : Record).stamp).epoch),.int .i64 (((⟨((((Qr g r.op).1).outs)[k]'hi4),r.stamp,(Qq ((Qr g r.op).1) r.key r.val).1,(Qq ((Qr g r.op).1) r.key r.val).2.1⟩ : Record).stamp).turn),.int .i64 ((⟨((((Qr g r.op).1).outs)[k]'hi4),r.stamp,(Qq ((Qr g r.op).1) r.key r.val).1,(Qq ((Qr g r.op).1) r.key r.val).2.1⟩ : Record).key),.int .i64 ((⟨((((Qr g r.op).1).outs)[k]'hi4),r.stamp,(Qq ((Qr g r.op).1) r.key r.val).1,(Qq ((Qr g r.op).1) r.key r.val).2.1⟩ : Record).val)]]) Kn Z Z ⟨⟨Z,Z⟩,trivial⟩ Z Z (fun b13 w42 e25 s13 h13=>?_)))))))
      replace h13 : Blk w42 b13 [.int .i64 ((⟨((((Qr g r.op).1).outs)[k]'hi4),r.stamp,(Qq ((Qr g r.op).1) r.key r.val).1,(Qq ((Qr g r.op).1) r.key r.val).2.1⟩ : Record).op),.int .i64 (((⟨((((Qr g r.op).1).outs)[k]'hi4),r.stamp,(Qq ((Qr g r.op).1) r.key r.val).1,(Qq ((Qr g r.op).1) r.key r.val).2.1⟩ : Record).stamp).epoch),.int .i64 (((⟨((((Qr g r.op).1).outs)[k]'hi4),r.stamp,(Qq ((Qr g r.op).1) r.key r.val).1,(Qq ((Qr g r.op).1) r.key r.val).2.1⟩ : Record).stamp).turn),.int .i64 ((⟨((((Qr g r.op).1).outs)[k]'hi4),r.stamp,(Qq ((Qr g r.op).1) r.key r.val).1,(Qq ((Qr g r.op).1) r.key r.val).2.1⟩ : Record).key),.int .i64 ((⟨((((Qr g r.op).1).outs)[k]'hi4),r.stamp,(Qq ((Qr g r.op).1) r.key r.val).1,(Qq ((Qr g r.op).1) r.key r.val).2.1⟩ : Record).val)]:=h13
      have g_b13 : w.heap.size ≤ b13:=by have:=E.size;omega
      have y_b13:=h13.lt
      replace E:=E.trans e25;replace h1:=h1.ext e25;replace h2:=h2.ext e25;replace ho1:=ho1.ext e25;replace hw1:=hw1.ext e25;replace h5:=h5.ext e25;replace h10:=h10.ext e25;replace hvo:=hvo.ext e25
      have z41:=e25.size
      refine Gb ?_
      refine Bt Z ?_
      refine Gp Kn Z Z hvo (Src.ofBlk h13 Z) Z (by first | (simp only [Yb,List.length_nil,List.length_cons];simp only [Enc.sz];omega) | (have h:=Hv g r k;rw [Yb];simp only [show Enc.sz Record = 5 from Z,List.length_cons,List.length_nil];omega)) (by decide) (by omega) (by omega) Z Z (fun v6 w43 m12 ho9 hb4=>?_)
      have hn4 : ∀ g,Value.ownBlock v6 = some g → g = b4 ∨ w31.heap.size ≤ g:=fun g hg=>(hb4 g hg).elim (fun h=>hvn g h) (fun h=>by omega)
      replace E:=E.step m12 (fun g hg=>by have:=Own.blk hvo g hg;have:=hvn g hg;omega);replace h1:=h1.mod m12 (fun g hg=>by have:=Own.blk hvo g hg;have:=hvn g hg;omega);replace h2:=h2.mod m12 (fun g hg=>by have:=Own.blk hvo g hg;have:=hvn g hg;omega);replace ho1:=ho1.mod m12 (fun g hg=>by have:=Own.blk hvo g hg;have:=hvn g hg;omega);replace hw1:=hw1.mod m12 (fun g hg=>by have:=Own.blk hvo g hg;have:=hvn g hg;omega);replace h5:=h5.mod m12 (fun g hg=>by have:=Own.blk hvo g hg;have:=hvn g hg;omega);replace h10:=h10.mod m12 (fun g hg=>by have:=Own.blk hvo g hg;have:=hvn g hg;omega)
      have z42:=m12.size
      refine T3 ?_
      refine Qa (Qe Z) Z (Qd (Q4 (Yr (Qh [true,true,true] Z Z (Qa (Qc Z) Z (Qa (Q8 Z Z (Yt hc12n (Own.rd (by decide) hw1).1)) Z (Qa (Qe Z) Z (Qd (Q4 (Yc (k + 1,v6) (by dsimp only;omega) ⟨Z,Z,Z,Z,Z,Z,Z,Z,Z,Z,trivial⟩ ⟨E,(by omega),h1,h2,ho1,hw1,h5,h10,(by omega),Own.fin ho9 (Nat.le_refl _) (by omega) (Tc (by rw [hstm]) (by rw [hstm]) hx (by omega)),hn4⟩))))))))))
     ·have hc12n : ¬ k < (((Qr g r.op).1).outs).length:=by first | (have h:=of_decide_eq_false hc12;omega) | (have h:=hc12;simp at h;omega)
      refine Yn (Q5 (Q3 ?_))
      refine Qf (Qh [true,true,true,true,true] Z Z (Qa (Qc Z) Z (Qa (Qc Z) Z (Qa (Qe Z) Z (Qa (Qe Z) Z (Qa (Qe Z) Z (Qd (Qw (Y5 (l:=[.tmp 6,.tmp 7,.tmp 8]) (vs:=[v1,vo,.bool true]) Z ⟨.tmp Z,.tmp Z,.tmp Z,trivial⟩ Z E ?_)))))))))
      rw [st_3 hc1 hx hc2 (by rw [A4 hc3];rfl),A4 hc3]
      exact ⟨_,_,Z,Own.fin ho1 (by omega) (by omega) (by first | rfl | (simp only [List.nil_append];done)),Own.fin hvo (by omega) (by omega) (by rw [show ((Qr g r.op).1).outs.length = k from by omega]),⟨⟨(fun g hg he=>by have:=Own.blk ho1 g hg;have:=Own.blk hvo g he;have:=hvn g he;omega),trivial⟩,⟨trivial,trivial⟩⟩⟩

set_option maxHeartbeats 4000000 in
set_option maxRecDepth 20000 in
theorem c_WorkOn (cg : List Value) (g : Graph) (cx : List Value) (x : Worker) (w : World) (hg : Dat.R w 0 w.heap.size cg g) (hx : Dat.R w 0 w.heap.size cx x) (hb : Yd x ≤ 1048576) : Ct Tryz.prog 25 [.agg cg.toArray,.agg cx.toArray] w (fun v w'=>∃ c0,v = .tuple [.agg c0.toArray,.bool ((V3 g x).2)].toArray ∧ Own1.O w' w.heap.size w'.heap.size c0 ((V3 g x).1)):=by
 have hb2:=hb
 unfold Yd at hb2
 refine Yh Tryz.func25 Z Tryz.ntmps25 Z ?_
 obtain ⟨o1,rfl,hd1⟩:=Graph.op hg
 obtain ⟨o2,o3,o4,o5,o6,o7,o8,o9,rfl,hd2,hd3,hd4,hd5,hd6,hd7,hd8,hd9⟩:=Worker.op hx
 refine Q7 [(0,.agg [o1,.int .i64 g.workers,.int .i64 g.cap].toArray),(1,.agg [o2,o3,o4,o5,o6,o7,o8,o9].toArray)] ⟨Z,Z,trivial⟩ ?_
 have E : Ext w w:=Ext.refl w
 refine Qf (Qh [false,false,false,true] Z Z (Y1 Z Z (fun b1 w1 e1 s1 h1=>?_)))
 have g_b1 : w.heap.size ≤ b1:=by have:=E.size;omega
 have y_b1:=h1.lt
 replace E:=E.trans e1
 have z1:=e1.size
 refine Y1 Z Z (fun b2 w2 e2 s2 h2=>?_)
 have g_b2 : w.heap.size ≤ b2:=by have:=E.size;omega
 have y_b2:=h2.lt
 replace E:=E.trans e2;replace h1:=h1.ext e2
 have z2:=e2.size
 refine Yk Kw Z (fun b3 w3 e3 s3 h3=>?_)
 have g_b3 : w.heap.size ≤ b3:=by have:=E.size;omega
 have y_b3:=h3.lt
 replace E:=E.trans e3;replace h1:=h1.ext e3;replace h2:=h2.ext e3
 have z3:=e3.size
 refine Qa (Qe Z) Z (Qd (Qf (Qh [true,false,false,false] Z Z (Qa (Qt Kw Z h2.at Z) Z (Qv Tryz.call55 Z (c_copyWorker [o2,o3,o4,o5,o6,o7,o8,o9] x _ (Worker.mkR x (RdD.any (hd2.ext E)) (RdD.any (hd3.ext E)) (RdD.any (hd4.ext E)) (RdD.any (hd5.ext E)) (RdD.any (hd6.ext E)) (RdD.any (hd7.ext E)) (RdD.any (hd8.ext E)) (RdD.any (hd9.ext E))) (by first | omega | (simp only [Qi];omega) | (rw [Qi];done) | (simp only [Qi];done))) Z (fun _ w4 e4 ho1=>?_))))))
 obtain ⟨_,rfl,ho1⟩:=ho1
 have g_ho1 : w.heap.size ≤ w3.heap.size:=E.size
 replace E:=E.trans e4;replace h1:=h1.ext e4;replace h2:=h2.ext e4;replace h3:=h3.ext e4
 have z4:=e4.size
 obtain ⟨o10,o11,o12,o13,o14,o15,o16,o17,rfl,sp1,hw1,hw2,hw3,hw4,hw5,hw6,hw7,hw8⟩:=Worker.opO ho1
 refine Yk Kw Z (fun b4 w5 e5 s4 h4=>?_)
 have g_b4 : w.heap.size ≤ b4:=by have:=E.size;omega
 have y_b4:=h4.lt
 replace E:=E.trans e5;replace h1:=h1.ext e5;replace h2:=h2.ext e5;replace h3:=h3.ext e5;replace hw1:=hw1.ext e5;replace hw2:=hw2.ext e5;replace hw3:=hw3.ext e5;replace hw4:=hw4.ext e5;replace hw5:=hw5.ext e5;replace hw6:=hw6.ext e5;replace hw7:=hw7.ext e5;replace hw8:=hw8.ext e5
 have z5:=e5.size
 refine Q6 (cs':=[o10,o11,o12,o13,o14,o15,o16,o17]) Kw Z Z Z (Qk hw1.one (Qk hw2.one (Qk hw3.one (Qk hw4.one (Qk hw5.one (Qk hw6.one (Qk hw7.one (Qk hw8.one Z)))))))) h4 (Nat.le_of_ble_eq_true Z) Z (fun w6 m1 h4'=>?_)
 replace h4:=h4'
 replace E:=E.step m1 (fun g hg=>by cases hg;omega);replace h1:=h1.mod m1 (fun g hg=>by cases hg;omega);replace h2:=h2.mod m1 (fun g hg=>by cases hg;omega);replace h3:=h3.mod m1 (fun g hg=>by cases hg;omega);replace hw1:=hw1.mod m1 (fun g hg=>by cases hg;omega);replace hw2:=hw2.mod m1 (fun g hg=>by cases hg;omega);replace hw3:=hw3.mod m1 (fun g hg=>by cases hg;omega);replace hw4:=hw4.mod m1 (fun g hg=>by cases hg;omega);replace hw5:=hw5.mod m1 (fun g hg=>by cases hg;omega);replace hw6:=hw6.mod m1 (fun g hg=>by cases hg;omega);replace hw7:=hw7.mod m1 (fun g hg=>by cases hg;omega);replace hw8:=hw8.mod m1 (fun g hg=>by cases hg;omega)
 have z6:=m1.size
 refine Qd (Qf (Qf (Qh [true,false,true,true,true,true,false,true,true,true,true,true,true,true,true,true,true,true,true,true,true] Z Z (Qa (Qt Km Z h1.at Z) Z (Qv Tryz.call59 Z (c_GraphOk [o1,.int .i64 g.workers,.int .i64 g.cap] g _ (Graph.mkR g (RdD.any (hd1.ext E)))) Z (fun _ w7 e6 hv=>?_))))))
 subst hv
 replace E:=E.trans e6;replace h1:=h1.ext e6;replace h2:=h2.ext e6;replace h3:=h3.ext e6;replace hw1:=hw1.ext e6;replace hw2:=hw2.ext e6;replace hw3:=hw3.ext e6;replace hw4:=hw4.ext e6;replace hw5:=hw5.ext e6;replace hw6:=hw6.ext e6;replace hw7:=hw7.ext e6;replace hw8:=hw8.ext e6;replace h4:=h4.ext e6
 have z7:=e6.size
 refine Qa (Yq Z) Z (Qa (Qc Z) Z (Y7 17 [(0,.agg [o1,.int .i64 g.workers,.int .i64 g.cap].toArray),(1,.agg [o2,o3,o4,o5,o6,o7,o8,o9].toArray),(2,.pointer (some ⟨b1,0,none⟩)),(3,.pointer (some ⟨b2,0,none⟩)),(4,.pointer (some ⟨b3,0,none⟩)),(5,.bool false),(6,.pointer (some ⟨b4,0,none⟩)),(8,.agg [o2,o3,o4,o5,o6,o7,o8,o9].toArray),(9,.agg [o10,o11,o12,o13,o14,o15,o16,o17].toArray),(30,.bool ((((!(Ys g)) || (!(Xc g x))) || (decide (0 < ((x.staged.length : Nat) : Int)))) || (((x.queue.length : Nat) : Int) == 0)))] (fun w'=>Ext w w' ∧ w7.heap.size ≤ w'.heap.size ∧ Blk w' b1 ([o1,.int .i64 g.workers,.int .i64 g.cap]) ∧ Blk w' b2 ([o2,o3,o4,o5,o6,o7,o8,o9]) ∧ Blk w' b3 [.slice none 0 0,.slice none 0 0,.slice none 0 0,.slice none 0 0,.slice none 0 0,.slice none 0 0,.slice none 0 0,.slice none 0 0] ∧ Own w' w3.heap.size w4.heap.size 5 o10 (List.flatMap (Enc.enc (α:=Record)) x.queue) ∧ Own w' w3.heap.size w4.heap.size 5 o11 (List.flatMap (Enc.enc (α:=Record)) x.staged) ∧ Own w' w3.heap.size w4.heap.size 5 o12 (List.flatMap (Enc.enc (α:=Record)) x.inputs) ∧ Own w' w3.heap.size w4.heap.size 4 o13 (List.flatMap (Enc.enc (α:=Cell)) x.cells) ∧ Own w' w3.heap.size w4.heap.size 1 o14 (List.flatMap (Enc.enc (α:=Int)) x.sums) ∧ Own w' w3.heap.size w4.heap.size 1 o15 (List.flatMap (Enc.enc (α:=Bool)) x.black) ∧ Own w' w3.heap.size w4.heap.size 1 o16 (List.flatMap (Enc.enc (α:=Bool)) x.caps) ∧ Own w' w3.heap.size w4.heap.size 2 o17 (List.flatMap (Enc.enc (α:=Done)) x.dones) ∧ Blk w' b4 [o10,o11,o12,o13,o14,o15,o16,o17]) ?_ ?_))
 ·refine Y3 (gd:=13) Z Z (fun hg1=>?_) (fun hg1=>?_)
  ·refine Qg Z Z Z Z (Qg Z Z Z Z ?_)
   refine Yp Z Z Z Z ?_
   refine Qg Z Z Z Z (Qa (Qx Z Z) Z (Qa (Qc Z) Z (Qg Z Z Z Z (Qg Z Z Z Z (Qg Z Z Z Z (Qg Z Z Z Z (Qa (Qx Z Z) Z (Qa (Qc Z) Z (Qg Z Z Z Z (Qg Z Z Z Z (Qg Z Z Z Z (Qg Z Z Z Z (Qa (Qx Z Z) Z (Qp ⟨Z,Z,Z,Z,Z,Z,Z,Z,Z,congrArg (fun b=>some (Value.bool b)) (show true = ((((!(Ys g)) || (!(Xc g x))) || (decide (0 < ((x.staged.length : Nat) : Int)))) || (((x.queue.length : Nat) : Int) == 0)) by first | (rw [hg1] <;> rfl) | (simp [hg1];done) | (simp only [Qo] <;> simp)),trivial⟩ ⟨E,(by omega),h1,h2,h3,hw1,hw2,hw3,hw4,hw5,hw6,hw7,hw8,h4⟩))))))))))))))
  ·refine Qm Z Z (Qt Km Z h1.at Z) Z (Qm Z Z (Qt Kw Z h2.at Z) Z ?_)
   refine Xp Z Z ?_
   refine Qv Tryz.call60 Z (c_WorkerOk [o1,.int .i64 g.workers,.int .i64 g.cap] g [o2,o3,o4,o5,o6,o7,o8,o9] x _ (Graph.mkR g (RdD.any (hd1.ext E))) (Worker.mkR x (RdD.any (hd2.ext E)) (RdD.any (hd3.ext E)) (RdD.any (hd4.ext E)) (RdD.any (hd5.ext E)) (RdD.any (hd6.ext E)) (RdD.any (hd7.ext E)) (RdD.any (hd8.ext E)) (RdD.any (hd9.ext E)))) Z (fun _ w9 e7 hv=>?_)
   subst hv
   replace E:=E.trans e7;replace h1:=h1.ext e7;replace h2:=h2.ext e7;replace h3:=h3.ext e7;replace hw1:=hw1.ext e7;replace hw2:=hw2.ext e7;replace hw3:=hw3.ext e7;replace hw4:=hw4.ext e7;replace hw5:=hw5.ext e7;replace hw6:=hw6.ext e7;replace hw7:=hw7.ext e7;replace hw8:=hw8.ext e7;replace h4:=h4.ext e7
   have z8:=e7.size
   refine Qm Z Z (Yq Z) Z (Qa (Qy Z Z) Z (Qa (Qc Z) Z ?_))
   refine Y3 (gd:=19) Z Z (fun hg2=>?_) (fun hg2=>?_)
   ·refine Qg Z Z Z Z (Qg Z Z Z Z (Qg Z Z Z Z (Qg Z Z Z Z (Qa (Qx Z Z) Z (Qa (Qc Z) Z (Qg Z Z Z Z (Qg Z Z Z Z (Qg Z Z Z Z (Qg Z Z Z Z (Qa (Qx Z Z) Z (Qp ⟨Z,Z,Z,Z,Z,Z,Z,Z,Z,congrArg (fun b=>some (Value.bool b)) (show true = ((((!(Ys g)) || (!(Xc g x))) || (decide (0 < ((x.staged.length : Nat) : Int)))) || (((x.queue.length : Nat) : Int) == 0)) by first | (rw [hg1,hg2] <;> rfl) | (simp [hg1,hg2];done) | (simp only [Qo] <;> simp)),trivial⟩ ⟨E,(by omega),h1,h2,h3,hw1,hw2,hw3,hw4,hw5,hw6,hw7,hw8,h4⟩)))))))))))
   ·refine Qm Z Z (Qb Gm Z) Z (Qm Z Z (Qj Xy Z (h2.one 1 Z)) Z (Qm Z Z (Ya Tryz.underlying64 Z (hd3.ext E).len) Z (Qm Z Z (V0 Z Z) Z (Qa (Qy Z Z) Z (Qa (Qc Z) Z ?_)))))
    refine Y3 (gd:=25) Z Z (fun hg3=>?_) (fun hg3=>?_)
    ·have hg3n : x.staged.length > 0:=by first | (have h:=of_decide_eq_true hg3;omega) | (have h:=hg3;simp at h;omega)
     refine Qg Z Z Z Z (Qg Z Z Z Z (Qg Z Z Z Z (Qg Z Z Z Z (Qa (Qx Z Z) Z (Qp ⟨Z,Z,Z,Z,Z,Z,Z,Z,Z,congrArg (fun b=>some (Value.bool b)) (show true = ((((!(Ys g)) || (!(Xc g x))) || (decide (0 < ((x.staged.length : Nat) : Int)))) || (((x.queue.length : Nat) : Int) == 0)) by first | (rw [hg1,hg2,hg3] <;> rfl) | (simp [hg1,hg2,hg3];done) | (simp only [Qo] <;> simp)),trivial⟩ ⟨E,(by omega),h1,h2,h3,hw1,hw2,hw3,hw4,hw5,hw6,hw7,hw8,h4⟩)))))
    ·have hg3n : ¬ x.staged.length > 0:=by first | (have h:=of_decide_eq_false hg3;omega) | (have h:=hg3;simp at h;omega)
     refine Qm Z Z (Qb Vd Z) Z (Qm Z Z (Qj Xy Z (h2.one 0 Z)) Z (Qm Z Z (Ya Tryz.underlying64 Z (hd2.ext E).len) Z (Qm Z Z (Y6 Z Z) Z (Qa (Qy Z Z) Z (Qp ⟨Z,Z,Z,Z,Z,Z,Z,Z,Z,congrArg (fun b=>some (Value.bool b)) (show (((x.queue.length : Nat) : Int) == 0) = ((((!(Ys g)) || (!(Xc g x))) || (decide (0 < ((x.staged.length : Nat) : Int)))) || (((x.queue.length : Nat) : Int) == 0)) by first | (rw [hg1,hg2,hg3] <;> rfl) | (simp [hg1,hg2,hg3];done) | (simp only [Qo] <;> simp)),trivial⟩ ⟨E,(by omega),h1,h2,h3,hw1,hw2,hw3,hw4,hw5,hw6,hw7,hw8,h4⟩)))))
 clear E h1 h2 h3 hw1 hw2 hw3 hw4 hw5 hw6 hw7 hw8 h4
 rintro w8 ⟨E,z9,h1,h2,h3,hw1,hw2,hw3,hw4,hw5,hw6,hw7,hw8,h4⟩
 refine Qd (Qs Z (fun hc1=>?_) (fun hc1=>?_))
 ·refine Qf (Qh [true,false,true] Z Z (Qa (Qt Kw Z h4.at Z) Z (Q6 (cs':=[o10,o11,o12,o13,o14,o15,o16,o17]) Kw Z Z Z (Qk hw1.one (Qk hw2.one (Qk hw3.one (Qk hw4.one (Qk hw5.one (Qk hw6.one (Qk hw7.one (Qk hw8.one Z)))))))) h3 (Nat.le_of_ble_eq_true Z) Z (fun w10 m2 h3'=>?_))))
  replace h3:=h3'
  replace E:=E.step m2 (fun g hg=>by cases hg;omega);replace h1:=h1.mod m2 (fun g hg=>by cases hg;omega);replace h2:=h2.mod m2 (fun g hg=>by cases hg;omega);replace hw1:=hw1.mod m2 (fun g hg=>by cases hg;omega);replace hw2:=hw2.mod m2 (fun g hg=>by cases hg;omega);replace hw3:=hw3.mod m2 (fun g hg=>by cases hg;omega);replace hw4:=hw4.mod m2 (fun g hg=>by cases hg;omega);replace hw5:=hw5.mod m2 (fun g hg=>by cases hg;omega);replace hw6:=hw6.mod m2 (fun g hg=>by cases hg;omega);replace hw7:=hw7.mod m2 (fun g hg=>by cases hg;omega);replace hw8:=hw8.mod m2 (fun g hg=>by cases hg;omega);replace h4:=h4.mod m2 (fun g hg=>by cases hg;omega)
  have z10:=m2.size
  refine Qa (Qe Z) Z (Qd (Qw (Y5 (l:=[.cell 4 70,.tmp 5]) (vs:=[.agg [o10,o11,o12,o13,o14,o15,o16,o17].toArray,.bool false]) Z ⟨.cell Z (Yi Kw h3.at Z),.tmp Z,trivial⟩ Z E ?_)))
  rw [work_no hc1]
  exact ⟨_,Z,(Worker.mkO x sp1 (Own.widen hw1 (by omega) (by omega)) (Own.widen hw2 (by omega) (by omega)) (Own.widen hw3 (by omega) (by omega)) (Own.widen hw4 (by omega) (by omega)) (Own.widen hw5 (by omega) (by omega)) (Own.widen hw6 (by omega) (by omega)) (Own.widen hw7 (by omega) (by omega)) (Own.widen hw8 (by omega) (by omega)))⟩
 ·have hwl:=work_lt hc1
  refine Qn (Qf (Qh [true,true,true,true,false,false] Z Z (Qa (Qb Vd Z) Z (Qa (Qj Xy Z (h2.one 0 Z)) Z ?_))))
  have hi1 : 0 < x.queue.length:=(by first | assumption | omega | (simp only [List.length_set];first | assumption | omega))
  refine Qa (Q1 (i:=0) Kn Z Z (hd2.rd.ext E) hi1) Z (Qa (Qt Va Z ((hd2.rd.ext E).get hi1) Z) Z (Yk Va Z (fun b5 w11 e8 s5 h5=>?_)))
  have g_b5 : w.heap.size ≤ b5:=by have:=E.size;omega
  have y_b5:=h5.lt
  replace E:=E.trans e8;replace h1:=h1.ext e8;replace h2:=h2.ext e8;replace h3:=h3.ext e8;replace hw1:=hw1.ext e8;replace hw2:=hw2.ext e8;replace hw3:=hw3.ext e8;replace hw4:=hw4.ext e8;replace hw5:=hw5.ext e8;replace hw6:=hw6.ext e8;replace hw7:=hw7.ext e8;replace hw8:=hw8.ext e8;replace h4:=h4.ext e8
  have z11:=e8.size
  refine Q6 (cs':=[.int .i64 ((x.queue[0]'hi1).op),.int .i64 (((x.queue[0]'hi1).stamp).epoch),.int .i64 (((x.queue[0]'hi1).stamp).turn),.int .i64 ((x.queue[0]'hi1).key),.int .i64 ((x.queue[0]'hi1).val)]) Va Z Z Z Z h5 (Nat.le_of_ble_eq_true Z) Z (fun w12 m3 h5'=>?_)
  replace h5:=h5'
  replace E:=E.step m3 (fun g hg=>by cases hg;omega);replace h1:=h1.mod m3 (fun g hg=>by cases hg;omega);replace h2:=h2.mod m3 (fun g hg=>by cases hg;omega);replace h3:=h3.mod m3 (fun g hg=>by cases hg;omega);replace hw1:=hw1.mod m3 (fun g hg=>by cases hg;omega);replace hw2:=hw2.mod m3 (fun g hg=>by cases hg;omega);replace hw3:=hw3.mod m3 (fun g hg=>by cases hg;omega);replace hw4:=hw4.mod m3 (fun g hg=>by cases hg;omega);replace hw5:=hw5.mod m3 (fun g hg=>by cases hg;omega);replace hw6:=hw6.mod m3 (fun g hg=>by cases hg;omega);replace hw7:=hw7.mod m3 (fun g hg=>by cases hg;omega);replace hw8:=hw8.mod m3 (fun g hg=>by cases hg;omega);replace h4:=h4.mod m3 (fun g hg=>by cases hg;omega)
  have z12:=m3.size
  refine Qd (Qf (Qh [true,true,true,true,false] Z Z (Qa (Qb Vd Z) Z (Qa (Qj Xy Z (h4.one 0 Z)) Z ?_))))
  have hk1 : 1 ≤ x.queue.length:=by first | assumption | omega
  have hs1:=Own.slFromE (α:=Record) hw1 hk1
  replace hs1 : Own w12 w3.heap.size w4.heap.size 5 (slFrom o10 1 5) (List.flatMap (Enc.enc (α:=Record)) (List.drop 1 x.queue)):=hs1
  have hb1 : Become w12 o10 (slFrom o10 1 5):=fun g hg=>.inl (by rwa [B6] at hg)
  replace sp1:=SepL.set hb1 0 rfl sp1 ⟨(Own.lt hw1),(Own.lt hw2),(Own.lt hw3),(Own.lt hw4),(Own.lt hw5),(Own.lt hw6),(Own.lt hw7),(Own.lt hw8),trivial⟩
  replace sp1 : SepL [slFrom o10 1 5,o11,o12,o13,o14,o15,o16,o17]:=sp1
  refine Qa (Vz Kn Z Z (Own.roomE (α:=Record) hw1) hk1) Z (Qa (Qb Vd Z) Z (Yj (cs':=[slFrom o10 1 5,o11,o12,o13,o14,o15,o16,o17]) Xy Z Z hs1.one h4 (Nat.le_of_ble_eq_true Z) Z (fun w13 m4 h4'=>?_)))
  replace h4:=h4'
  replace E:=E.step m4 (fun g hg=>by cases hg;omega);replace h1:=h1.mod m4 (fun g hg=>by cases hg;omega);replace h2:=h2.mod m4 (fun g hg=>by cases hg;omega);replace h3:=h3.mod m4 (fun g hg=>by cases hg;omega);replace hw2:=hw2.mod m4 (fun g hg=>by cases hg;omega);replace hw3:=hw3.mod m4 (fun g hg=>by cases hg;omega);replace hw4:=hw4.mod m4 (fun g hg=>by cases hg;omega);replace hw5:=hw5.mod m4 (fun g hg=>by cases hg;omega);replace hw6:=hw6.mod m4 (fun g hg=>by cases hg;omega);replace hw7:=hw7.mod m4 (fun g hg=>by cases hg;omega);replace hw8:=hw8.mod m4 (fun g hg=>by cases hg;omega);replace h5:=h5.mod m4 (fun g hg=>by cases hg;omega);replace hs1:=hs1.mod m4 (fun g hg=>by cases hg;omega)
  have z13:=m4.size
  refine Qd (Qf (Qh [true,true,true,true,false,true,true,true,true,true,false,true,false] Z Z (Qa (Qt Km Z h1.at Z) Z (Qa (Qb Gl Z) Z (Qa (Qj A1 Z (h2.one 3 Z)) Z (Qa (Qt Va Z h5.at Z) Z (Qv Tryz.call61 Z (c_StepOp [o1,.int .i64 g.workers,.int .i64 g.cap] g o5 x.cells (x.queue[0]'hi1) _ (Graph.mkR g (RdD.any (hd1.ext E))) (hd5.rd.ext E) (by first | omega | (simp only [Qi];omega) | (rw [Qi];done) | (simp only [Qi];done))) Z (fun _ w14 e9 ho2=>?_))))))))
  obtain ⟨v1,v2,rfl,ho3,ho4,sp2⟩:=ho2
  have g_ho2 : w.heap.size ≤ w13.heap.size:=E.size
  replace E:=E.trans e9;replace h1:=h1.ext e9;replace h2:=h2.ext e9;replace h3:=h3.ext e9;replace hw2:=hw2.ext e9;replace hw3:=hw3.ext e9;replace hw4:=hw4.ext e9;replace hw5:=hw5.ext e9;replace hw6:=hw6.ext e9;replace hw7:=hw7.ext e9;replace hw8:=hw8.ext e9;replace h4:=h4.ext e9;replace h5:=h5.ext e9;replace hs1:=hs1.ext e9
  have z14:=e9.size
  refine Qa (Qc Z) Z (Qa (Yv Z Z) Z (Qa (Yv Z Z) Z (Qa (Yv Z Z) Z (Qa (Qb Gl Z) Z (Yj (cs':=[slFrom o10 1 5,o11,o12,v1,o14,o15,o16,o17]) A1 Z Z ho3.one h4 (Nat.le_of_ble_eq_true Z) Z (fun w15 m5 h4'=>?_))))))
  replace h4:=h4'
  replace E:=E.step m5 (fun g hg=>by cases hg;omega);replace h1:=h1.mod m5 (fun g hg=>by cases hg;omega);replace h2:=h2.mod m5 (fun g hg=>by cases hg;omega);replace h3:=h3.mod m5 (fun g hg=>by cases hg;omega);replace hw2:=hw2.mod m5 (fun g hg=>by cases hg;omega);replace hw3:=hw3.mod m5 (fun g hg=>by cases hg;omega);replace hw4:=hw4.mod m5 (fun g hg=>by cases hg;omega);replace hw5:=hw5.mod m5 (fun g hg=>by cases hg;omega);replace hw6:=hw6.mod m5 (fun g hg=>by cases hg;omega);replace hw7:=hw7.mod m5 (fun g hg=>by cases hg;omega);replace hw8:=hw8.mod m5 (fun g hg=>by cases hg;omega);replace h5:=h5.mod m5 (fun g hg=>by cases hg;omega);replace hs1:=hs1.mod m5 (fun g hg=>by cases hg;omega);replace ho3:=ho3.mod m5 (fun g hg=>by cases hg;omega);replace ho4:=ho4.mod m5 (fun g hg=>by cases hg;omega)
  have z15:=m5.size
  refine Qa (Qb Gm Z) Z (Yj (cs':=[slFrom o10 1 5,v2,o12,v1,o14,o15,o16,o17]) Xy Z Z ho4.one h4 (Nat.le_of_ble_eq_true Z) Z (fun w16 m6 h4'=>?_))
  replace h4:=h4'
  replace E:=E.step m6 (fun g hg=>by cases hg;omega);replace h1:=h1.mod m6 (fun g hg=>by cases hg;omega);replace h2:=h2.mod m6 (fun g hg=>by cases hg;omega);replace h3:=h3.mod m6 (fun g hg=>by cases hg;omega);replace hw2:=hw2.mod m6 (fun g hg=>by cases hg;omega);replace hw3:=hw3.mod m6 (fun g hg=>by cases hg;omega);replace hw4:=hw4.mod m6 (fun g hg=>by cases hg;omega);replace hw5:=hw5.mod m6 (fun g hg=>by cases hg;omega);replace hw6:=hw6.mod m6 (fun g hg=>by cases hg;omega);replace hw7:=hw7.mod m6 (fun g hg=>by cases hg;omega);replace hw8:=hw8.mod m6 (fun g hg=>by cases hg;omega);replace h5:=h5.mod m6 (fun g hg=>by cases hg;omega);replace hs1:=hs1.mod m6 (fun g hg=>by cases hg;omega);replace ho3:=ho3.mod m6 (fun g hg=>by cases hg;omega);replace ho4:=ho4.mod m6 (fun g hg=>by cases hg;omega)
  have z16:=m6.size
  refine Qd (Qf (Qf (Qh [true,true,false] Z Z (Qa (Qt Km Z h1.at Z) Z (Qa (Qt Va Z h5.at Z) Z (Qv Tryz.call62 Z (c_Capped [o1,.int .i64 g.workers,.int .i64 g.cap] g (x.queue[0]'hi1) _ (Graph.mkR g (RdD.any (hd1.ext E)))) Z (fun _ w17 e10 hv=>?_)))))))
  subst hv
  replace E:=E.trans e10;replace h1:=h1.ext e10;replace h2:=h2.ext e10;replace h3:=h3.ext e10;replace hw2:=hw2.ext e10;replace hw3:=hw3.ext e10;replace hw4:=hw4.ext e10;replace hw5:=hw5.ext e10;replace hw6:=hw6.ext e10;replace hw7:=hw7.ext e10;replace hw8:=hw8.ext e10;replace h4:=h4.ext e10;replace h5:=h5.ext e10;replace hs1:=hs1.ext e10;replace ho3:=ho3.ext e10;replace ho4:=ho4.ext e10
  have z17:=e10.size
  refine Qd (Qs Z (fun hc2=>?_) (fun hc2=>?_))
  ·have hwc:=work_cap hc1 hwl hc2
   refine Qh [true,true,true,true,true,true,false] Z Z (Qa (Qb Hl Z) Z (Qa (Qj G5 Z (h4.one 6 Z)) Z (Qa (Qb Kx Z) Z (Qa (Qz Vi Z) Z (Qa (Qj Yo Z (h5.one 1 Z)) Z ?_)))))
   have hi2 : (Int.toNat (((x.queue[0]'hi1).stamp).epoch)) < x.caps.length:=(by first | assumption | omega | (simp only [List.length_set];first | assumption | omega))
   refine Qa (U3 (i:=(Int.toNat (((x.queue[0]'hi1).stamp).epoch))) C1 Z Z (Own.rd (by decide) hw7) (by omega) hi2) Z (Dx (α:=Bool) (i:=(Int.toNat (((x.queue[0]'hi1).stamp).epoch))) (f:=0) true Tb Z Z Z Z hw7 hi2 (by decide) Z (fun w18 m7 hw7'=>?_))
   have hq:=Own.blk hw7
   replace hw7:=hw7'
   replace E:=E.step m7 (fun g hg=>by have:=hq g hg;omega);replace h1:=h1.mod m7 (fun g hg=>by have:=hq g hg;omega);replace h2:=h2.mod m7 (fun g hg=>by have:=hq g hg;omega);replace h3:=h3.mod m7 (fun g hg=>by have:=hq g hg;omega);replace hw2:=Own.modS hw2 m7 (sp1.2.1.2.2.2.2.1).symm;replace hw3:=Own.modS hw3 m7 (sp1.2.2.1.2.2.2.1).symm;replace hw4:=Own.modS hw4 m7 (sp1.2.2.2.1.2.2.1).symm;replace hw5:=Own.modS hw5 m7 (sp1.2.2.2.2.1.2.1).symm;replace hw6:=Own.modS hw6 m7 (sp1.2.2.2.2.2.1.1).symm;replace hw8:=Own.modS hw8 m7 sp1.2.2.2.2.2.2.1.1;replace h4:=h4.mod m7 (fun g hg=>by have:=hq g hg;omega);replace h5:=h5.mod m7 (fun g hg=>by have:=hq g hg;omega);replace hs1:=Own.modS hs1 m7 (sp1.1.2.2.2.2.2.1).symm;replace ho3:=ho3.mod m7 (fun g hg=>by have:=hq g hg;omega);replace ho4:=ho4.mod m7 (fun g hg=>by have:=hq g hg;omega)
   have z18:=m7.size
   clear hq
   refine Qd (Qf (Qh [true,false,true] Z Z (Qa (Qt Kw Z h4.at Z) Z (Q6 (cs':=[slFrom o10 1 5,v2,o12,v1,o14,o15,o16,o17]) Kw Z Z Z (Qk hs1.one (Qk ho4.one (Qk hw3.one (Qk ho3.one (Qk hw5.one (Qk hw6.one (Qk hw7.one (Qk hw8.one Z)))))))) h3 (Nat.le_of_ble_eq_true Z) Z (fun w19 m8 h3'=>?_)))))
   replace h3:=h3'
   replace E:=E.step m8 (fun g hg=>by cases hg;omega);replace h1:=h1.mod m8 (fun g hg=>by cases hg;omega);replace h2:=h2.mod m8 (fun g hg=>by cases hg;omega);replace hw2:=hw2.mod m8 (fun g hg=>by cases hg;omega);replace hw3:=hw3.mod m8 (fun g hg=>by cases hg;omega);replace hw4:=hw4.mod m8 (fun g hg=>by cases hg;omega);replace hw5:=hw5.mod m8 (fun g hg=>by cases hg;omega);replace hw6:=hw6.mod m8 (fun g hg=>by cases hg;omega);replace hw8:=hw8.mod m8 (fun g hg=>by cases hg;omega);replace h4:=h4.mod m8 (fun g hg=>by cases hg;omega);replace h5:=h5.mod m8 (fun g hg=>by cases hg;omega);replace hs1:=hs1.mod m8 (fun g hg=>by cases hg;omega);replace ho3:=ho3.mod m8 (fun g hg=>by cases hg;omega);replace ho4:=ho4.mod m8 (fun g hg=>by cases hg;omega);replace hw7:=hw7.mod m8 (fun g hg=>by cases hg;omega)
   have z19:=m8.size
   refine Qa (Qe Z) Z (Qd (Qw (Y5 (l:=[.cell 4 70,.tmp 5]) (vs:=[.agg [slFrom o10 1 5,v2,o12,v1,o14,o15,o16,o17].toArray,.bool true]) Z ⟨.cell Z (Yi Kw h3.at Z),.tmp Z,trivial⟩ Z E ?_)))
   rw [work_c hc1 hwl hc2]
   exact ⟨_,Z,(Worker.mkO (⟨List.drop 1 x.queue,(Xw g x.cells (x.queue[0]'hi1)).2.1,x.inputs,(Xw g x.cells (x.queue[0]'hi1)).1,x.sums,x.black,List.set x.caps (Int.toNat (((x.queue[0]'hi1).stamp).epoch)) true,x.dones⟩ : Worker) ⟨⟨(Own.sep hs1 ho4 (by omega)),⟨sp1.1.2.1,⟨(Own.sep hs1 ho3 (by omega)),⟨sp1.1.2.2.2.1,⟨sp1.1.2.2.2.2.1,⟨sp1.1.2.2.2.2.2.1,⟨sp1.1.2.2.2.2.2.2.1,trivial⟩⟩⟩⟩⟩⟩⟩,⟨⟨(Own.sep ho4 hw3 (by omega)),⟨(sp2.1.1).symm,⟨(Own.sep ho4 hw5 (by omega)),⟨(Own.sep ho4 hw6 (by omega)),⟨(Own.sep ho4 hw7 (by omega)),⟨(Own.sep ho4 hw8 (by omega)),trivial⟩⟩⟩⟩⟩⟩,⟨⟨(Own.sep hw3 ho3 (by omega)),⟨sp1.2.2.1.2.1,⟨sp1.2.2.1.2.2.1,⟨sp1.2.2.1.2.2.2.1,⟨sp1.2.2.1.2.2.2.2.1,trivial⟩⟩⟩⟩⟩,⟨⟨(Own.sep ho3 hw5 (by omega)),⟨(Own.sep ho3 hw6 (by omega)),⟨(Own.sep ho3 hw7 (by omega)),⟨(Own.sep ho3 hw8 (by omega)),trivial⟩⟩⟩⟩,⟨⟨sp1.2.2.2.2.1.1,⟨sp1.2.2.2.2.1.2.1,⟨sp1.2.2.2.2.1.2.2.1,trivial⟩⟩⟩,⟨⟨sp1.2.2.2.2.2.1.1,⟨sp1.2.2.2.2.2.1.2.1,trivial⟩⟩,⟨⟨sp1.2.2.2.2.2.2.1.1,trivial⟩,⟨trivial,trivial⟩⟩⟩⟩⟩⟩⟩⟩ (Own.widen hs1 (by omega) (by omega)) (Own.widen ho4 (by omega) (by omega)) (Own.widen hw3 (by omega) (by omega)) (Own.widen ho3 (by omega) (by omega)) (Own.widen hw5 (by omega) (by omega)) (Own.widen hw6 (by omega) (by omega)) (Own.widen hw7 (by omega) (by omega)) (Own.widen hw8 (by omega) (by omega)))⟩
  ·refine Qn (Qf (Qh [true,false,true] Z Z (Qa (Qt Kw Z h4.at Z) Z (Q6 (cs':=[slFrom o10 1 5,v2,o12,v1,o14,o15,o16,o17]) Kw Z Z Z (Qk hs1.one (Qk ho4.one (Qk hw3.one (Qk ho3.one (Qk hw5.one (Qk hw6.one (Qk hw7.one (Qk hw8.one Z)))))))) h3 (Nat.le_of_ble_eq_true Z) Z (fun w20 m9 h3'=>?_)))))
   replace h3:=h3'
   replace E:=E.step m9 (fun g hg=>by cases hg;omega);replace h1:=h1.mod m9 (fun g hg=>by cases hg;omega);replace h2:=h2.mod m9 (fun g hg=>by cases hg;omega);replace hw2:=hw2.mod m9 (fun g hg=>by cases hg;omega);replace hw3:=hw3.mod m9 (fun g hg=>by cases hg;omega);replace hw4:=hw4.mod m9 (fun g hg=>by cases hg;omega);replace hw5:=hw5.mod m9 (fun g hg=>by cases hg;omega);replace hw6:=hw6.mod m9 (fun g hg=>by cases hg;omega);replace hw7:=hw7.mod m9 (fun g hg=>by cases hg;omega);replace hw8:=hw8.mod m9 (fun g hg=>by cases hg;omega);replace h4:=h4.mod m9 (fun g hg=>by cases hg;omega);replace h5:=h5.mod m9 (fun g hg=>by cases hg;omega);replace hs1:=hs1.mod m9 (fun g hg=>by cases hg;omega);replace ho3:=ho3.mod m9 (fun g hg=>by cases hg;omega);replace ho4:=ho4.mod m9 (fun g hg=>by cases hg;omega)
   have z20:=m9.size
   refine Qa (Qe Z) Z (Qd (Qw (Y5 (l:=[.cell 4 70,.tmp 5]) (vs:=[.agg [slFrom o10 1 5,v2,o12,v1,o14,o15,o16,o17].toArray,.bool true]) Z ⟨.cell Z (Yi Kw h3.at Z),.tmp Z,trivial⟩ Z E ?_)))
   rw [work_n hc1 hwl hc2]
   exact ⟨_,Z,(Worker.mkO (⟨List.drop 1 x.queue,(Xw g x.cells (x.queue[0]'hi1)).2.1,x.inputs,(Xw g x.cells (x.queue[0]'hi1)).1,x.sums,x.black,x.caps,x.dones⟩ : Worker) ⟨⟨(Own.sep hs1 ho4 (by omega)),⟨sp1.1.2.1,⟨(Own.sep hs1 ho3 (by omega)),⟨sp1.1.2.2.2.1,⟨sp1.1.2.2.2.2.1,⟨sp1.1.2.2.2.2.2.1,⟨sp1.1.2.2.2.2.2.2.1,trivial⟩⟩⟩⟩⟩⟩⟩,⟨⟨(Own.sep ho4 hw3 (by omega)),⟨(sp2.1.1).symm,⟨(Own.sep ho4 hw5 (by omega)),⟨(Own.sep ho4 hw6 (by omega)),⟨(Own.sep ho4 hw7 (by omega)),⟨(Own.sep ho4 hw8 (by omega)),trivial⟩⟩⟩⟩⟩⟩,⟨⟨(Own.sep hw3 ho3 (by omega)),⟨sp1.2.2.1.2.1,⟨sp1.2.2.1.2.2.1,⟨sp1.2.2.1.2.2.2.1,⟨sp1.2.2.1.2.2.2.2.1,trivial⟩⟩⟩⟩⟩,⟨⟨(Own.sep ho3 hw5 (by omega)),⟨(Own.sep ho3 hw6 (by omega)),⟨(Own.sep ho3 hw7 (by omega)),⟨(Own.sep ho3 hw8 (by omega)),trivial⟩⟩⟩⟩,⟨⟨sp1.2.2.2.2.1.1,⟨sp1.2.2.2.2.1.2.1,⟨sp1.2.2.2.2.1.2.2.1,trivial⟩⟩⟩,⟨⟨sp1.2.2.2.2.2.1.1,⟨sp1.2.2.2.2.2.1.2.1,trivial⟩⟩,⟨⟨sp1.2.2.2.2.2.2.1.1,trivial⟩,⟨trivial,trivial⟩⟩⟩⟩⟩⟩⟩⟩ (Own.widen hs1 (by omega) (by omega)) (Own.widen ho4 (by omega) (by omega)) (Own.widen hw3 (by omega) (by omega)) (Own.widen ho3 (by omega) (by omega)) (Own.widen hw5 (by omega) (by omega)) (Own.widen hw6 (by omega) (by omega)) (Own.widen hw7 (by omega) (by omega)) (Own.widen hw8 (by omega) (by omega)))⟩

set_option maxRecDepth 20000 in
theorem markTokenS (vxs : Value) (lo hi : Nat) (xs : List Token) (k : Nat) (w : World) (hxs : Own w lo hi 5 vxs (List.flatMap (Enc.enc (α:=Token)) xs)) (hb : k + xs.length * 5 ≤ 1099511627776) : CtR Tryz.prog 34 [vxs,.int .i64 ((k : Nat) : Int)] w lo hi (fun v w'=>v = .int .i64 ((k + 5 * xs.length : Nat) : Int) ∧ Own w' lo hi 5 vxs (List.flatMap (Enc.enc (α:=Token)) (V2 5 G6 k xs.length))):=by
 refine Vs Tryz.func34 Z Tryz.ntmps34 Z ?_
 refine Q7 [(0,vxs),(1,.int .i64 ((k : Nat) : Int))] ⟨Z,Z,trivial⟩ ?_
 have E : ModR w w lo hi:=ModR.refl w lo hi
 refine Qf (Qh [true] Z Z (Qa (Qe Z) Z (Qd (Qf (Qf (Qh [true] Z Z (Qa (Qe Z) Z (Qd (Q0 (Ym (fun (xq : Nat × Nat × List Token)=>let ⟨i,q,bs⟩:=xq;[(0,vxs),(1,.int .i64 ((q : Nat) : Int)),(4,.int .i64 0),(5,.int .i64 ((i : Nat) : Int))]) (fun (xq : Nat × Nat × List Token) w'=>let ⟨i,q,bs⟩:=xq;ModR w w' lo hi ∧ w.heap.size ≤ w'.heap.size ∧ i + bs.length = xs.length ∧ q = k + 5 * i ∧ Own w' lo hi 5 vxs (List.flatMap (Enc.enc (α:=Token)) (V2 5 G6 k i ++ bs))) (fun (xq : Nat × Nat × List Token)=>let ⟨i,q,bs⟩:=xq;xs.length - i) (0,k,xs) ⟨Z,Z,Z,Z,trivial⟩ ⟨E,Nat.le_refl _,(by simp),(by simp),(by simpa [V2] using hxs)⟩ ?_))))))))))
 clear E hxs
 rintro ⟨i,q,bs⟩ w1 ⟨E,z1,hi,hq,hxs⟩
 refine Q7 [(0,vxs),(1,.int .i64 ((q : Nat) : Int)),(4,.int .i64 0),(5,.int .i64 ((i : Nat) : Int))] ⟨Z,Z,Z,Z,trivial⟩ ?_
 refine Qf (Qf (Qh [true,true,true,true] Z Z (Qa (Qc Z) Z (Qa (Qc Z) Z (Qa (Ya Tryz.underlying37 Z (Own.lenE (by decide) hxs (by simp only [List.length_append,Qi,List.length_cons];omega))) Z (Qa (Yf Z Z) Z (Qd (Qs Z (fun hc1=>?_) (fun hc1=>?_)))))))))
 ·rcases bs with _ | ⟨x,bs⟩
  ·exact absurd hi (by have h:=hc1;simp at h ⊢;omega)
  simp only [List.length_cons] at hi
  have hc1n : i < xs.length:=by first | (have h:=of_decide_eq_true hc1;omega) | (have h:=hc1;simp at h;omega)
  refine Qn (Qf (Q0 (Qf (Qh [true,true,true,true,true,true,true,false] Z Z (Qa (Qc Z) Z (Qa (Qc Z) Z (Qa (Qc Z) Z (Qa (Gd Z Z (by decide) Z) Z (Qa (Y6 Z Z) Z (Qa (Q1 Hg Z Z (Own.rd (by decide) hxs) (by simp only [List.length_append,Qi,List.length_cons];omega)) Z (Qa (Qz Tv Z) Z (Xh (α:=Token) (i:=i) (f:=0) (⟨(Int.tmod ((q : Nat) : Int) 3) == 0,x.place,x.sum,x.black,x.capped⟩ : Token) Tb Z Z Z Z hxs (Qi _ _ _ _) (by decide) Z (fun w2 m1 hxs'=>?_)))))))))))))
  have hq:=hxs.blk
  replace hxs:=hxs'
  replace E:=E.mod m1 (fun g hg=>by have:=hq g hg;omega)
  have z2:=m1.size
  clear hq
  refine Qd (Qf (Qh [true,true,true] Z Z (Qa (Qc Z) Z (Qa (Q8 Z Z (Ye (by unfold maxLen;omega))) Z (Qa (Qe Z) Z (Qd (Qf (Qh [true,true,true,true,true,false] Z Z (Qa (Qc Z) Z (Qa (Qc Z) Z (Qa (Qc Z) Z (Qa (Q1 Hg Z Z (Own.rd (by decide) hxs) (by simp only [List.length_append,Qi,List.length_cons];omega)) Z (Qa (Qz G9 Z) Z (Xh (α:=Token) (i:=i) (f:=1) (⟨(Int.tmod ((q : Nat) : Int) 3) == 0,((q + 1 : Nat) : Int),x.sum,x.black,x.capped⟩ : Token) Yo Z Z Z Z hxs (Qi _ _ _ _) (by decide) Z (fun w3 m2 hxs'=>?_)))))))))))))))
  have hq:=hxs.blk
  replace hxs:=hxs'
  replace E:=E.mod m2 (fun g hg=>by have:=hq g hg;omega)
  have z3:=m2.size
  clear hq
  refine Qd (Qf (Qh [true,true,true] Z Z (Qa (Qc Z) Z (Qa (Q8 Z Z (Ye (by unfold maxLen;omega))) Z (Qa (Qe Z) Z (Qd (Qf (Qh [true,true,true,true,true,false] Z Z (Qa (Qc Z) Z (Qa (Qc Z) Z (Qa (Qc Z) Z (Qa (Q1 Hg Z Z (Own.rd (by decide) hxs) (by simp only [List.length_append,Qi,List.length_cons];omega)) Z (Qa (Qz G8 Z) Z (Xh (α:=Token) (i:=i) (f:=2) (⟨(Int.tmod ((q : Nat) : Int) 3) == 0,((q + 1 : Nat) : Int),((q + 1 + 1 : Nat) : Int),x.black,x.capped⟩ : Token) Yo Z Z Z Z hxs (Qi _ _ _ _) (by decide) Z (fun w4 m3 hxs'=>?_)))))))))))))))
  have hq:=hxs.blk
  replace hxs:=hxs'
  replace E:=E.mod m3 (fun g hg=>by have:=hq g hg;omega)
  have z4:=m3.size
  clear hq
  refine Qd (Qf (Qh [true,true,true] Z Z (Qa (Qc Z) Z (Qa (Q8 Z Z (Ye (by unfold maxLen;omega))) Z (Qa (Qe Z) Z (Qd (Qf (Qh [true,true,true,true,true,true,true,false] Z Z (Qa (Qc Z) Z (Qa (Qc Z) Z (Qa (Qc Z) Z (Qa (Gd Z Z (by decide) Z) Z (Qa (Y6 Z Z) Z (Qa (Q1 Hg Z Z (Own.rd (by decide) hxs) (by simp only [List.length_append,Qi,List.length_cons];omega)) Z (Qa (Qz Au Z) Z (Xh (α:=Token) (i:=i) (f:=3) (⟨(Int.tmod ((q : Nat) : Int) 3) == 0,((q + 1 : Nat) : Int),((q + 1 + 1 : Nat) : Int),(Int.tmod ((q + 1 + 1 + 1 : Nat) : Int) 3) == 0,x.capped⟩ : Token) Tb Z Z Z Z hxs (Qi _ _ _ _) (by decide) Z (fun w5 m4 hxs'=>?_)))))))))))))))))
  have hq:=hxs.blk
  replace hxs:=hxs'
  replace E:=E.mod m4 (fun g hg=>by have:=hq g hg;omega)
  have z5:=m4.size
  clear hq
  refine Qd (Qf (Qh [true,true,true] Z Z (Qa (Qc Z) Z (Qa (Q8 Z Z (Ye (by unfold maxLen;omega))) Z (Qa (Qe Z) Z (Qd (Qf (Qh [true,true,true,true,true,true,true,false] Z Z (Qa (Qc Z) Z (Qa (Qc Z) Z (Qa (Qc Z) Z (Qa (Gd Z Z (by decide) Z) Z (Qa (Y6 Z Z) Z (Qa (Q1 Hg Z Z (Own.rd (by decide) hxs) (by simp only [List.length_append,Qi,List.length_cons];omega)) Z (Qa (Qz As Z) Z (Xh (α:=Token) (i:=i) (f:=4) (⟨(Int.tmod ((q : Nat) : Int) 3) == 0,((q + 1 : Nat) : Int),((q + 1 + 1 : Nat) : Int),(Int.tmod ((q + 1 + 1 + 1 : Nat) : Int) 3) == 0,(Int.tmod ((q + 1 + 1 + 1 + 1 : Nat) : Int) 3) == 0⟩ : Token) Tb Z Z Z Z hxs (Qi _ _ _ _) (by decide) Z (fun w6 m5 hxs'=>?_)))))))))))))))))
  have hq:=hxs.blk
  replace hxs:=hxs'
  replace E:=E.mod m5 (fun g hg=>by have:=hq g hg;omega)
  have z6:=m5.size
  clear hq
  refine Qd (Qh [true,true,true] Z Z (Qa (Qc Z) Z (Qa (Q8 Z Z (Ye (by unfold maxLen;omega))) Z (Qa (Qe Z) Z (Qd (Q4 (Yr (Qh [true,true,true] Z Z (Qa (Qc Z) Z (Qa (Q8 Z Z (Ye (by unfold maxLen;omega))) Z (Qa (Qe Z) Z (Qd (Q4 (Yc (i + 1,q + 1 + 1 + 1 + 1 + 1,bs) (by simp;omega) ⟨rfl,rfl,rfl,rfl,trivial⟩ ⟨E,(by omega),(by omega),(by omega),(by subst hq;rw [← Hi];exact hxs)⟩))))))))))))))
 ·have hc1n : ¬ i < xs.length:=by first | (have h:=of_decide_eq_false hc1;omega) | (have h:=hc1;simp at h;omega)
  refine Yn (Q5 (Q3 ?_))
  refine Qf (Qh [true,true] Z Z (Qa (Qc Z) Z (Qa (Qe Z) Z (Qd (Qw (Ql Z Z E ?_))))))
  exact ⟨by subst hq;rw [show i = xs.length from by omega],by obtain rfl : bs = []:=List.eq_nil_of_length_eq_zero (by omega);rw [show xs.length = i from by simp at hi;omega];simpa using hxs⟩

set_option maxRecDepth 20000 in
theorem heldTokenS (vxs : Value) (xs : List Token) (k : Nat) (w : World) (hxs : RdS w vxs xs) (hm : xs = V2 5 G6 k xs.length) (hb : k + xs.length * 5 ≤ 1099511627776) : Ct Tryz.prog 39 [vxs,.int .i64 ((k : Nat) : Int)] w (fun v _=>v = .int .i64 ((k + 5 * xs.length : Nat) : Int)):=by
 refine Yh Tryz.func39 Z Tryz.ntmps39 Z ?_
 refine Q7 [(0,vxs),(1,.int .i64 ((k : Nat) : Int))] ⟨Z,Z,trivial⟩ ?_
 have E : Ext w w:=Ext.refl w
 refine Qf (Qh [true] Z Z (Qa (Qe Z) Z (Qd (Qf (Qf (Qh [true] Z Z (Qa (Qe Z) Z (Qd (Q0 (Ym (fun (xq : Nat × Nat)=>let ⟨i,q⟩:=xq;[(0,vxs),(1,.int .i64 ((q : Nat) : Int)),(4,.int .i64 0),(5,.int .i64 ((i : Nat) : Int))]) (fun (xq : Nat × Nat) w'=>let ⟨i,q⟩:=xq;Ext w w' ∧ w.heap.size ≤ w'.heap.size ∧ i ≤ xs.length ∧ q = k + 5 * i) (fun (xq : Nat × Nat)=>let ⟨i,q⟩:=xq;xs.length - i) (0,k) ⟨Z,Z,Z,Z,trivial⟩ ⟨E,Nat.le_refl _,Nat.zero_le _,(by simp)⟩ ?_))))))))))
 clear E
 rintro ⟨i,q⟩ w1 ⟨E,z1,hi,hq⟩
 refine Q7 [(0,vxs),(1,.int .i64 ((q : Nat) : Int)),(4,.int .i64 0),(5,.int .i64 ((i : Nat) : Int))] ⟨Z,Z,Z,Z,trivial⟩ ?_
 refine Qf (Qf (Qh [true,true,true,true] Z Z (Qa (Qc Z) Z (Qa (Qc Z) Z (Qa (Ya Tryz.underlying37 Z (hxs.ext E).len) Z (Qa (Yf Z Z) Z (Qd (Qs Z (fun hc1=>?_) (fun hc1=>?_)))))))))
 ·have hc1n : i < xs.length:=by first | (have h:=of_decide_eq_true hc1;omega) | (have h:=hc1;simp at h;omega)
  refine Qn (Qf (Q0 (Qf (Qf (Qh [true,true,true,true,true,true,true,true,true] Z Z (Qa (Qc Z) Z (Qa (Qc Z) Z ?_)))))))
  have hi1 : i < xs.length:=(by first | assumption | omega | (simp only [List.length_set];first | assumption | omega))
  refine Qa (Q1 (i:=i) Hg Z Z (hxs.ext E) hi1) Z (Qa (Qz Tv Z) Z (Qa (Qj Tb Z (((hxs.ext E).get hi1).one 0 Z)) Z (Qa (Qc Z) Z (Qa (Gd Z Z (by decide) Z) Z (Qa (Y6 Z Z) Z (Qa (Vf (Tryz.underlying4) Z Z) Z (Qd (Yy rfl (by subst hq;rw [Ui hm (by omega)];simp [G6]) (Qn (Qf (Qh [true,true,true] Z Z (Qa (Qc Z) Z (Qa (Q8 Z Z (Ye (by unfold maxLen;omega))) Z (Qa (Qe Z) Z (Qd (Qf (Qf (Qh [true,true,true,true,true,true,true] Z Z (Qa (Qc Z) Z (Qa (Qc Z) Z (Qa (Q1 (i:=i) Hg Z Z (hxs.ext E) hi1) Z (Qa (Qz G9 Z) Z (Qa (Qj Yo Z (((hxs.ext E).get hi1).one 1 Z)) Z (Qa (Qc Z) Z (Qa (Yu Z Z) Z (Qd (Yy rfl (by subst hq;rw [Ui hm (by omega)];simp [G6]) (Qn (Qf (Qh [true,true,true] Z Z (Qa (Qc Z) Z (Qa (Q8 Z Z (Ye (by unfold maxLen;omega))) Z (Qa (Qe Z) Z (Qd (Qf (Qf (Qh [true,true,true,true,true,true,true] Z Z (Qa (Qc Z) Z (Qa (Qc Z) Z (Qa (Q1 (i:=i) Hg Z Z (hxs.ext E) hi1) Z (Qa (Qz G8 Z) Z (Qa (Qj Yo Z (((hxs.ext E).get hi1).one 2 Z)) Z (Qa (Qc Z) Z (Qa (Yu Z Z) Z (Qd (Yy rfl (by subst hq;rw [Ui hm (by omega)];simp [G6]) (Qn (Qf (Qh [true,true,true] Z Z (Qa (Qc Z) Z (Qa (Q8 Z Z (Ye (by unfold maxLen;omega))) Z (Qa (Qe Z) Z (Qd (Qf (Qf (Qh [true,true,true,true,true,true,true,true,true] Z Z (Qa (Qc Z) Z (Qa (Qc Z) Z (Qa (Q1 (i:=i) Hg Z Z (hxs.ext E) hi1) Z (Qa (Qz Au Z) Z (Qa (Qj Tb Z (((hxs.ext E).get hi1).one 3 Z)) Z (Qa (Qc Z) Z (Qa (Gd Z Z (by decide) Z) Z (Qa (Y6 Z Z) Z (Qa (Vf (Tryz.underlying4) Z Z) Z (Qd (Yy rfl (by subst hq;rw [Ui hm (by omega)];simp [G6]) (Qn (Qf (Qh [true,true,true] Z Z (Qa (Qc Z) Z (Qa (Q8 Z Z (Ye (by unfold maxLen;omega))) Z (Qa (Qe Z) Z (Qd (Qf (Qf (Qh [true,true,true,true,true,true,true,true,true] Z Z (Qa (Qc Z) Z (Qa (Qc Z) Z (Qa (Q1 (i:=i) Hg Z Z (hxs.ext E) hi1) Z (Qa (Qz As Z) Z (Qa (Qj Tb Z (((hxs.ext E).get hi1).one 4 Z)) Z (Qa (Qc Z) Z (Qa (Gd Z Z (by decide) Z) Z (Qa (Y6 Z Z) Z (Qa (Vf (Tryz.underlying4) Z Z) Z (Qd (Yy rfl (by subst hq;rw [Ui hm (by omega)];simp [G6]) (Qn (Qh [true,true,true] Z Z (Qa (Qc Z) Z (Qa (Q8 Z Z (Ye (by unfold maxLen;omega))) Z (Qa (Qe Z) Z (Qd (Q4 (Yr (Qh [true,true,true] Z Z (Qa (Qc Z) Z (Qa (Q8 Z Z (Ye (by unfold maxLen;omega))) Z (Qa (Qe Z) Z (Qd (Q4 (Yc (i + 1,q + 1 + 1 + 1 + 1 + 1) (by simp;omega) ⟨Z,Z,Z,Z,trivial⟩ ⟨E,(by omega),(by omega),(by omega)⟩)))))))))))))))))))))))))))))))))))))))))))))))))))))))))))))))))))))))))))))))))))))))))))))))))))))))
 ·have hc1n : ¬ i < xs.length:=by first | (have h:=of_decide_eq_false hc1;omega) | (have h:=hc1;simp at h;omega)
  refine Yn (Q5 (Q3 ?_))
  refine Qf (Qh [true,true] Z Z (Qa (Qc Z) Z (Qa (Qe Z) Z (Qd (Qw (Ql Z Z E ?_))))))
  subst hq;rw [show i = xs.length from by omega]

set_option maxRecDepth 20000 in
theorem markNewsS (vxs : Value) (lo hi : Nat) (xs : List News) (k : Nat) (w : World) (hxs : Own w lo hi 3 vxs (List.flatMap (Enc.enc (α:=News)) xs)) (hb : k + xs.length * 3 ≤ 1099511627776) : CtR Tryz.prog 35 [vxs,.int .i64 ((k : Nat) : Int)] w lo hi (fun v w'=>v = .int .i64 ((k + 3 * xs.length : Nat) : Int) ∧ Own w' lo hi 3 vxs (List.flatMap (Enc.enc (α:=News)) (V2 3 C8 k xs.length))):=by
 refine Vs Tryz.func35 Z Tryz.ntmps35 Z ?_
 refine Q7 [(0,vxs),(1,.int .i64 ((k : Nat) : Int))] ⟨Z,Z,trivial⟩ ?_
 have E : ModR w w lo hi:=ModR.refl w lo hi
 refine Qf (Qh [true] Z Z (Qa (Qe Z) Z (Qd (Qf (Qf (Qh [true] Z Z (Qa (Qe Z) Z (Qd (Q0 (Ym (fun (xq : Nat × Nat × List News)=>let ⟨i,q,bs⟩:=xq;[(0,vxs),(1,.int .i64 ((q : Nat) : Int)),(4,.int .i64 0),(5,.int .i64 ((i : Nat) : Int))]) (fun (xq : Nat × Nat × List News) w'=>let ⟨i,q,bs⟩:=xq;ModR w w' lo hi ∧ w.heap.size ≤ w'.heap.size ∧ i + bs.length = xs.length ∧ q = k + 3 * i ∧ Own w' lo hi 3 vxs (List.flatMap (Enc.enc (α:=News)) (V2 3 C8 k i ++ bs))) (fun (xq : Nat × Nat × List News)=>let ⟨i,q,bs⟩:=xq;xs.length - i) (0,k,xs) ⟨Z,Z,Z,Z,trivial⟩ ⟨E,Nat.le_refl _,(by simp),(by simp),(by simpa [V2] using hxs)⟩ ?_))))))))))
 clear E hxs
 rintro ⟨i,q,bs⟩ w1 ⟨E,z1,hi,hq,hxs⟩
 refine Q7 [(0,vxs),(1,.int .i64 ((q : Nat) : Int)),(4,.int .i64 0),(5,.int .i64 ((i : Nat) : Int))] ⟨Z,Z,Z,Z,trivial⟩ ?_
 refine Qf (Qf (Qh [true,true,true,true] Z Z (Qa (Qc Z) Z (Qa (Qc Z) Z (Qa (Ya Tryz.underlying38 Z (Own.lenE (by decide) hxs (by simp only [List.length_append,Qi,List.length_cons];omega))) Z (Qa (Yf Z Z) Z (Qd (Qs Z (fun hc1=>?_) (fun hc1=>?_)))))))))
 ·rcases bs with _ | ⟨x,bs⟩
  ·exact absurd hi (by have h:=hc1;simp at h ⊢;omega)
  simp only [List.length_cons] at hi
  have hc1n : i < xs.length:=by first | (have h:=of_decide_eq_true hc1;omega) | (have h:=hc1;simp at h;omega)
  refine Qn (Qf (Q0 (Qf (Qh [true,true,true,true,true,false] Z Z (Qa (Qc Z) Z (Qa (Qc Z) Z (Qa (Qc Z) Z (Qa (Q1 Cs Z Z (Own.rd (by decide) hxs) (by simp only [List.length_append,Qi,List.length_cons];omega)) Z (Qa (Qz Tu Z) Z (Xh (α:=News) (i:=i) (f:=0) (⟨((q : Nat) : Int),x.epoch,x.capped⟩ : News) Yo Z Z Z Z hxs (Qi _ _ _ _) (by decide) Z (fun w2 m1 hxs'=>?_)))))))))))
  have hq:=hxs.blk
  replace hxs:=hxs'
  replace E:=E.mod m1 (fun g hg=>by have:=hq g hg;omega)
  have z2:=m1.size
  clear hq
  refine Qd (Qf (Qh [true,true,true] Z Z (Qa (Qc Z) Z (Qa (Q8 Z Z (Ye (by unfold maxLen;omega))) Z (Qa (Qe Z) Z (Qd (Qf (Qh [true,true,true,true,true,false] Z Z (Qa (Qc Z) Z (Qa (Qc Z) Z (Qa (Qc Z) Z (Qa (Q1 Cs Z Z (Own.rd (by decide) hxs) (by simp only [List.length_append,Qi,List.length_cons];omega)) Z (Qa (Qz Tt Z) Z (Xh (α:=News) (i:=i) (f:=1) (⟨((q : Nat) : Int),((q + 1 : Nat) : Int),x.capped⟩ : News) Yo Z Z Z Z hxs (Qi _ _ _ _) (by decide) Z (fun w3 m2 hxs'=>?_)))))))))))))))
  have hq:=hxs.blk
  replace hxs:=hxs'
  replace E:=E.mod m2 (fun g hg=>by have:=hq g hg;omega)
  have z3:=m2.size
  clear hq
  refine Qd (Qf (Qh [true,true,true] Z Z (Qa (Qc Z) Z (Qa (Q8 Z Z (Ye (by unfold maxLen;omega))) Z (Qa (Qe Z) Z (Qd (Qf (Qh [true,true,true,true,true,true,true,false] Z Z (Qa (Qc Z) Z (Qa (Qc Z) Z (Qa (Qc Z) Z (Qa (Gd Z Z (by decide) Z) Z (Qa (Y6 Z Z) Z (Qa (Q1 Cs Z Z (Own.rd (by decide) hxs) (by simp only [List.length_append,Qi,List.length_cons];omega)) Z (Qa (Qz Ar Z) Z (Xh (α:=News) (i:=i) (f:=2) (⟨((q : Nat) : Int),((q + 1 : Nat) : Int),(Int.tmod ((q + 1 + 1 : Nat) : Int) 3) == 0⟩ : News) Tb Z Z Z Z hxs (Qi _ _ _ _) (by decide) Z (fun w4 m3 hxs'=>?_)))))))))))))))))
  have hq:=hxs.blk
  replace hxs:=hxs'
  replace E:=E.mod m3 (fun g hg=>by have:=hq g hg;omega)
  have z4:=m3.size
  clear hq
  refine Qd (Qh [true,true,true] Z Z (Qa (Qc Z) Z (Qa (Q8 Z Z (Ye (by unfold maxLen;omega))) Z (Qa (Qe Z) Z (Qd (Q4 (Yr (Qh [true,true,true] Z Z (Qa (Qc Z) Z (Qa (Q8 Z Z (Ye (by unfold maxLen;omega))) Z (Qa (Qe Z) Z (Qd (Q4 (Yc (i + 1,q + 1 + 1 + 1,bs) (by simp;omega) ⟨rfl,rfl,rfl,rfl,trivial⟩ ⟨E,(by omega),(by omega),(by omega),(by subst hq;rw [← Hi];exact hxs)⟩))))))))))))))
 ·have hc1n : ¬ i < xs.length:=by first | (have h:=of_decide_eq_false hc1;omega) | (have h:=hc1;simp at h;omega)
  refine Yn (Q5 (Q3 ?_))
  refine Qf (Qh [true,true] Z Z (Qa (Qc Z) Z (Qa (Qe Z) Z (Qd (Qw (Ql Z Z E ?_))))))
  exact ⟨by subst hq;rw [show i = xs.length from by omega],by obtain rfl : bs = []:=List.eq_nil_of_length_eq_zero (by omega);rw [show xs.length = i from by simp at hi;omega];simpa using hxs⟩

set_option maxRecDepth 20000 in
theorem heldNewsS (vxs : Value) (xs : List News) (k : Nat) (w : World) (hxs : RdS w vxs xs) (hm : xs = V2 3 C8 k xs.length) (hb : k + xs.length * 3 ≤ 1099511627776) : Ct Tryz.prog 40 [vxs,.int .i64 ((k : Nat) : Int)] w (fun v _=>v = .int .i64 ((k + 3 * xs.length : Nat) : Int)):=by
 refine Yh Tryz.func40 Z Tryz.ntmps40 Z ?_
 refine Q7 [(0,vxs),(1,.int .i64 ((k : Nat) : Int))] ⟨Z,Z,trivial⟩ ?_
 have E : Ext w w:=Ext.refl w
 refine Qf (Qh [true] Z Z (Qa (Qe Z) Z (Qd (Qf (Qf (Qh [true] Z Z (Qa (Qe Z) Z (Qd (Q0 (Ym (fun (xq : Nat × Nat)=>let ⟨i,q⟩:=xq;[(0,vxs),(1,.int .i64 ((q : Nat) : Int)),(4,.int .i64 0),(5,.int .i64 ((i : Nat) : Int))]) (fun (xq : Nat × Nat) w'=>let ⟨i,q⟩:=xq;Ext w w' ∧ w.heap.size ≤ w'.heap.size ∧ i ≤ xs.length ∧ q = k + 3 * i) (fun (xq : Nat × Nat)=>let ⟨i,q⟩:=xq;xs.length - i) (0,k) ⟨Z,Z,Z,Z,trivial⟩ ⟨E,Nat.le_refl _,Nat.zero_le _,(by simp)⟩ ?_))))))))))
 clear E
 rintro ⟨i,q⟩ w1 ⟨E,z1,hi,hq⟩
 refine Q7 [(0,vxs),(1,.int .i64 ((q : Nat) : Int)),(4,.int .i64 0),(5,.int .i64 ((i : Nat) : Int))] ⟨Z,Z,Z,Z,trivial⟩ ?_
 refine Qf (Qf (Qh [true,true,true,true] Z Z (Qa (Qc Z) Z (Qa (Qc Z) Z (Qa (Ya Tryz.underlying38 Z (hxs.ext E).len) Z (Qa (Yf Z Z) Z (Qd (Qs Z (fun hc1=>?_) (fun hc1=>?_)))))))))
 ·have hc1n : i < xs.length:=by first | (have h:=of_decide_eq_true hc1;omega) | (have h:=hc1;simp at h;omega)
  refine Qn (Qf (Q0 (Qf (Qf (Qh [true,true,true,true,true,true,true] Z Z (Qa (Qc Z) Z (Qa (Qc Z) Z ?_)))))))
  have hi1 : i < xs.length:=(by first | assumption | omega | (simp only [List.length_set];first | assumption | omega))
  refine Qa (Q1 (i:=i) Cs Z Z (hxs.ext E) hi1) Z (Qa (Qz Tu Z) Z (Qa (Qj Yo Z (((hxs.ext E).get hi1).one 0 Z)) Z (Qa (Qc Z) Z (Qa (Yu Z Z) Z (Qd (Yy rfl (by subst hq;rw [Ui hm (by omega)];simp [C8]) (Qn (Qf (Qh [true,true,true] Z Z (Qa (Qc Z) Z (Qa (Q8 Z Z (Ye (by unfold maxLen;omega))) Z (Qa (Qe Z) Z (Qd (Qf (Qf (Qh [true,true,true,true,true,true,true] Z Z (Qa (Qc Z) Z (Qa (Qc Z) Z (Qa (Q1 (i:=i) Cs Z Z (hxs.ext E) hi1) Z (Qa (Qz Tt Z) Z (Qa (Qj Yo Z (((hxs.ext E).get hi1).one 1 Z)) Z (Qa (Qc Z) Z (Qa (Yu Z Z) Z (Qd (Yy rfl (by subst hq;rw [Ui hm (by omega)];simp [C8]) (Qn (Qf (Qh [true,true,true] Z Z (Qa (Qc Z) Z (Qa (Q8 Z Z (Ye (by unfold maxLen;omega))) Z (Qa (Qe Z) Z (Qd (Qf (Qf (Qh [true,true,true,true,true,true,true,true,true] Z Z (Qa (Qc Z) Z (Qa (Qc Z) Z (Qa (Q1 (i:=i) Cs Z Z (hxs.ext E) hi1) Z (Qa (Qz Ar Z) Z (Qa (Qj Tb Z (((hxs.ext E).get hi1).one 2 Z)) Z (Qa (Qc Z) Z (Qa (Gd Z Z (by decide) Z) Z (Qa (Y6 Z Z) Z (Qa (Vf (Tryz.underlying4) Z Z) Z (Qd (Yy rfl (by subst hq;rw [Ui hm (by omega)];simp [C8]) (Qn (Qh [true,true,true] Z Z (Qa (Qc Z) Z (Qa (Q8 Z Z (Ye (by unfold maxLen;omega))) Z (Qa (Qe Z) Z (Qd (Q4 (Yr (Qh [true,true,true] Z Z (Qa (Qc Z) Z (Qa (Q8 Z Z (Ye (by unfold maxLen;omega))) Z (Qa (Qe Z) Z (Qd (Q4 (Yc (i + 1,q + 1 + 1 + 1) (by simp;omega) ⟨Z,Z,Z,Z,trivial⟩ ⟨E,(by omega),(by omega),(by omega)⟩)))))))))))))))))))))))))))))))))))))))))))))))))))))))))))))
 ·have hc1n : ¬ i < xs.length:=by first | (have h:=of_decide_eq_false hc1;omega) | (have h:=hc1;simp at h;omega)
  refine Yn (Q5 (Q3 ?_))
  refine Qf (Qh [true,true] Z Z (Qa (Qc Z) Z (Qa (Qe Z) Z (Qd (Qw (Ql Z Z E ?_))))))
  subst hq;rw [show i = xs.length from by omega]

set_option maxHeartbeats 4000000 in
set_option maxRecDepth 20000 in
theorem markWorkerS (vxs : Value) (lo hi : Nat) (fp : List Nat) (xs : List Worker) (k : Nat) (w : World) (gxs : OwF w lo hi vxs xs fp) (hhi : hi ≤ w.heap.size) (hb : k + 5 * X1 Yd xs ≤ 1099511627776) : CtR Tryz.prog 32 [vxs,.int .i64 ((k : Nat) : Int)] w lo hi (fun v w'=>v = .int .i64 (((Xv V6) k xs : Nat) : Int) ∧ OwF w' lo hi vxs ((X0 V6 Hx) k xs) fp ∧ Kq w w' fp):=by
 have hxs : OwK w fp w lo hi vxs xs:=⟨gxs,Kq.refl _ _⟩
 have hmx : xs.length ≤ maxLen:=hxs.rd.1.1
 unfold maxLen at hmx
 refine Vs Tryz.func32 Z Tryz.ntmps32 Z ?_
 refine Q7 [(0,vxs),(1,.int .i64 ((k : Nat) : Int))] ⟨Z,Z,trivial⟩ ?_
 have E : ModR w w lo hi:=ModR.refl w lo hi
 refine Qf (Qh [true] Z Z (Qa (Qe Z) Z (Qd (Qf (Qf (Qh [true] Z Z (Qa (Qe Z) Z (Qd (Q0 (Ym (fun (xq : Nat × Nat)=>let ⟨i,q⟩:=xq;[(0,vxs),(1,.int .i64 ((q : Nat) : Int)),(4,.int .i64 0),(5,.int .i64 ((i : Nat) : Int))]) (fun (xq : Nat × Nat) w'=>let ⟨i,q⟩:=xq;ModR w w' lo hi ∧ w.heap.size ≤ w'.heap.size ∧ i ≤ xs.length ∧ q = (Xv V6) k (xs.take i) ∧ OwK w fp w' lo hi vxs ((X0 V6 Hx) k (xs.take i) ++ xs.drop i)) (fun (xq : Nat × Nat)=>let ⟨i,q⟩:=xq;xs.length - i) (0,k) ⟨Z,Z,Z,Z,trivial⟩ ⟨E,Nat.le_refl _,Nat.zero_le _,Z,(by simpa [X0] using hxs)⟩ ?_))))))))))
 clear E hxs
 rintro ⟨i,q⟩ w1 ⟨E,z1,hi0,hq,hxs⟩
 refine Q7 [(0,vxs),(1,.int .i64 ((q : Nat) : Int)),(4,.int .i64 0),(5,.int .i64 ((i : Nat) : Int))] ⟨Z,Z,Z,Z,trivial⟩ ?_
 refine Qf (Qf (Qh [true,true,true,true] Z Z (Qa (Qc Z) Z (Qa (Qc Z) Z (Qa (Ya Tryz.underlying35 Z (OwK.lenE (n:=xs.length) hxs (by simp [Ue];omega))) Z (Qa (Yf Z Z) Z (Qd (Qs Z (fun hc1=>?_) (fun hc1=>?_)))))))))
 ·have hlt : i < xs.length:=by have h:=of_decide_eq_true hc1;omega
  rw [Ac hlt] at hxs
  obtain ⟨_,ho1,hrow⟩:=OwK.focus hxs
  obtain ⟨o1,o2,o3,o4,o5,o6,o7,o8,rfl,sp1,hw1,hw2,hw3,hw4,hw5,hw6,hw7,hw8⟩:=Worker.opO ho1
  clear hxs
  have hl0 : ((X0 V6 Hx) k (xs.take i)).length = i:=by rw [Ue];simp;omega
  have hn0 : i + 1 + (xs.drop (i + 1)).length = xs.length:=by simp;omega
  have hqk:=Ck (k:=k) Bv hlt;rw [← hq] at hqk;unfold V6 at hqk
  have hc1n : i < xs.length:=by first | (have h:=of_decide_eq_true hc1;omega) | (have h:=hc1;simp at h;omega)
  refine Qn (Qf (Q0 (Qf (Qh [true,true,true,true,true,true,false,true] Z Z (Qa (Qc Z) Z (Qa (Qc Z) Z (Qa (Q1 (i:=i) U8 Z Z (RowK.same1 hrow hl0 hn0) (by simp;omega)) Z (Qa (Qz Vd Z) Z (Qa (Qj Xy Z ((RowK.at hrow hl0).one 0 Z)) Z (Qa (Qc Z) Z (Kj Tryz.call69 Z Z (markRecordS o1 (bl o1) (bh o1) ((xs[i]'hlt).queue) q _ (Own.tight hw1) (by first | omega | (simp only [Qi];omega) | (rw [Qi];done) | (simp only [Qi];done))) Z (fun _ w2 e1 hv=>?_))))))))))))
  obtain ⟨rfl,hw1'⟩:=hv
  have e1c:=ModR.loose e1 (Own.blk hw1)
  replace hw1:=Own.loose hw1' (Own.blk hw1)
  clear hw1'
  replace E:=E.trans e1c (by omega) (by omega);replace hw2:=Own.modRS hw2 e1 sp1.1.1;replace hw3:=Own.modRS hw3 e1 sp1.1.2.1;replace hw4:=Own.modRS hw4 e1 sp1.1.2.2.1;replace hw5:=Own.modRS hw5 e1 sp1.1.2.2.2.1;replace hw6:=Own.modRS hw6 e1 sp1.1.2.2.2.2.1;replace hw7:=Own.modRS hw7 e1 sp1.1.2.2.2.2.2.1;replace hw8:=Own.modRS hw8 e1 sp1.1.2.2.2.2.2.2.1;replace hrow:=RowK.modRS hrow e1 (by simp)
  have z2:=e1c.size
  refine Qa (Qe Z) Z (Qd (Qf (Qh [true,true,true,true,true,true,false,true] Z Z (Qa (Qc Z) Z (Qa (Qc Z) Z (Qa (Q1 (i:=i) U8 Z Z (RowK.same1 hrow hl0 hn0) (by simp;omega)) Z (Qa (Qz Gm Z) Z (Qa (Qj Xy Z ((RowK.at hrow hl0).one 1 Z)) Z (Qa (Qc Z) Z (Kj Tryz.call69 Z Z (markRecordS o2 (bl o2) (bh o2) ((xs[i]'hlt).staged) (q + 5 * ((xs[i]'hlt).queue).length) _ (Own.tight hw2) (by first | omega | (simp only [Qi];omega) | (rw [Qi];done) | (simp only [Qi];done))) Z (fun _ w3 e2 hv=>?_)))))))))))
  obtain ⟨rfl,hw2'⟩:=hv
  have e2c:=ModR.loose e2 (Own.blk hw2)
  replace hw2:=Own.loose hw2' (Own.blk hw2)
  clear hw2'
  replace E:=E.trans e2c (by omega) (by omega);replace hw1:=Own.modRS hw1 e2 (sp1.1.1).symm;replace hw3:=Own.modRS hw3 e2 sp1.2.1.1;replace hw4:=Own.modRS hw4 e2 sp1.2.1.2.1;replace hw5:=Own.modRS hw5 e2 sp1.2.1.2.2.1;replace hw6:=Own.modRS hw6 e2 sp1.2.1.2.2.2.1;replace hw7:=Own.modRS hw7 e2 sp1.2.1.2.2.2.2.1;replace hw8:=Own.modRS hw8 e2 sp1.2.1.2.2.2.2.2.1;replace hrow:=RowK.modRS hrow e2 (by simp)
  have z3:=e2c.size
  refine Qa (Qe Z) Z (Qd (Qf (Qh [true,true,true,true,true,true,false,true] Z Z (Qa (Qc Z) Z (Qa (Qc Z) Z (Qa (Q1 (i:=i) U8 Z Z (RowK.same1 hrow hl0 hn0) (by simp;omega)) Z (Qa (Qz Vj Z) Z (Qa (Qj Xy Z ((RowK.at hrow hl0).one 2 Z)) Z (Qa (Qc Z) Z (Kj Tryz.call69 Z Z (markRecordS o3 (bl o3) (bh o3) ((xs[i]'hlt).inputs) ((q + 5 * ((xs[i]'hlt).queue).length) + 5 * ((xs[i]'hlt).staged).length) _ (Own.tight hw3) (by first | omega | (simp only [Qi];omega) | (rw [Qi];done) | (simp only [Qi];done))) Z (fun _ w4 e3 hv=>?_)))))))))))
  obtain ⟨rfl,hw3'⟩:=hv
  have e3c:=ModR.loose e3 (Own.blk hw3)
  replace hw3:=Own.loose hw3' (Own.blk hw3)
  clear hw3'
  replace E:=E.trans e3c (by omega) (by omega);replace hw1:=Own.modRS hw1 e3 (sp1.1.2.1).symm;replace hw2:=Own.modRS hw2 e3 (sp1.2.1.1).symm;replace hw4:=Own.modRS hw4 e3 sp1.2.2.1.1;replace hw5:=Own.modRS hw5 e3 sp1.2.2.1.2.1;replace hw6:=Own.modRS hw6 e3 sp1.2.2.1.2.2.1;replace hw7:=Own.modRS hw7 e3 sp1.2.2.1.2.2.2.1;replace hw8:=Own.modRS hw8 e3 sp1.2.2.1.2.2.2.2.1;replace hrow:=RowK.modRS hrow e3 (by simp)
  have z4:=e3c.size
  refine Qa (Qe Z) Z (Qd (Qf (Qh [true,true,true,true,true,true,false,true] Z Z (Qa (Qc Z) Z (Qa (Qc Z) Z (Qa (Q1 (i:=i) U8 Z Z (RowK.same1 hrow hl0 hn0) (by simp;omega)) Z (Qa (Qz Gl Z) Z (Qa (Qj A1 Z ((RowK.at hrow hl0).one 3 Z)) Z (Qa (Qc Z) Z (Kj Tryz.call70 Z Z (markCellS o4 (bl o4) (bh o4) ((xs[i]'hlt).cells) (((q + 5 * ((xs[i]'hlt).queue).length) + 5 * ((xs[i]'hlt).staged).length) + 5 * ((xs[i]'hlt).inputs).length) _ (Own.tight hw4) (by first | omega | (simp only [Qi];omega) | (rw [Qi];done) | (simp only [Qi];done))) Z (fun _ w5 e4 hv=>?_)))))))))))
  obtain ⟨rfl,hw4'⟩:=hv
  have e4c:=ModR.loose e4 (Own.blk hw4)
  replace hw4:=Own.loose hw4' (Own.blk hw4)
  clear hw4'
  replace E:=E.trans e4c (by omega) (by omega);replace hw1:=Own.modRS hw1 e4 (sp1.1.2.2.1).symm;replace hw2:=Own.modRS hw2 e4 (sp1.2.1.2.1).symm;replace hw3:=Own.modRS hw3 e4 (sp1.2.2.1.1).symm;replace hw5:=Own.modRS hw5 e4 sp1.2.2.2.1.1;replace hw6:=Own.modRS hw6 e4 sp1.2.2.2.1.2.1;replace hw7:=Own.modRS hw7 e4 sp1.2.2.2.1.2.2.1;replace hw8:=Own.modRS hw8 e4 sp1.2.2.2.1.2.2.2.1;replace hrow:=RowK.modRS hrow e4 (by simp)
  have z5:=e4c.size
  refine Qa (Qe Z) Z (Qd (Qf (Qh [true,true,true,true,true,true,false,true] Z Z (Qa (Qc Z) Z (Qa (Qc Z) Z (Qa (Q1 (i:=i) U8 Z Z (RowK.same1 hrow hl0 hn0) (by simp;omega)) Z (Qa (Qz Hm Z) Z (Qa (Qj Ke Z ((RowK.at hrow hl0).one 4 Z)) Z (Qa (Qc Z) Z (Kj Tryz.call71 Z Z (markIntS o5 (bl o5) (bh o5) ((xs[i]'hlt).sums) ((((q + 5 * ((xs[i]'hlt).queue).length) + 5 * ((xs[i]'hlt).staged).length) + 5 * ((xs[i]'hlt).inputs).length) + 4 * ((xs[i]'hlt).cells).length) _ (Own.tight hw5) (by first | omega | (simp only [Qi];omega) | (rw [Qi];done) | (simp only [Qi];done))) Z (fun _ w6 e5 hv=>?_)))))))))))
  obtain ⟨rfl,hw5'⟩:=hv
  have e5c:=ModR.loose e5 (Own.blk hw5)
  replace hw5:=Own.loose hw5' (Own.blk hw5)
  clear hw5'
  replace E:=E.trans e5c (by omega) (by omega);replace hw1:=Own.modRS hw1 e5 (sp1.1.2.2.2.1).symm;replace hw2:=Own.modRS hw2 e5 (sp1.2.1.2.2.1).symm;replace hw3:=Own.modRS hw3 e5 (sp1.2.2.1.2.1).symm;replace hw4:=Own.modRS hw4 e5 (sp1.2.2.2.1.1).symm;replace hw6:=Own.modRS hw6 e5 sp1.2.2.2.2.1.1;replace hw7:=Own.modRS hw7 e5 sp1.2.2.2.2.1.2.1;replace hw8:=Own.modRS hw8 e5 sp1.2.2.2.2.1.2.2.1;replace hrow:=RowK.modRS hrow e5 (by simp)
  have z6:=e5c.size
  refine Qa (Qe Z) Z (Qd (Qf (Qh [true,true,true,true,true,true,false,true] Z Z (Qa (Qc Z) Z (Qa (Qc Z) Z (Qa (Q1 (i:=i) U8 Z Z (RowK.same1 hrow hl0 hn0) (by simp;omega)) Z (Qa (Qz Ts Z) Z (Qa (Qj G5 Z ((RowK.at hrow hl0).one 5 Z)) Z (Qa (Qc Z) Z (Kj Tryz.call72 Z Z (markBoolS o6 (bl o6) (bh o6) ((xs[i]'hlt).black) (((((q + 5 * ((xs[i]'hlt).queue).length) + 5 * ((xs[i]'hlt).staged).length) + 5 * ((xs[i]'hlt).inputs).length) + 4 * ((xs[i]'hlt).cells).length) + 1 * ((xs[i]'hlt).sums).length) _ (Own.tight hw6) (by first | omega | (simp only [Qi];omega) | (rw [Qi];done) | (simp only [Qi];done))) Z (fun _ w7 e6 hv=>?_)))))))))))
  obtain ⟨rfl,hw6'⟩:=hv
  have e6c:=ModR.loose e6 (Own.blk hw6)
  replace hw6:=Own.loose hw6' (Own.blk hw6)
  clear hw6'
  replace E:=E.trans e6c (by omega) (by omega);replace hw1:=Own.modRS hw1 e6 (sp1.1.2.2.2.2.1).symm;replace hw2:=Own.modRS hw2 e6 (sp1.2.1.2.2.2.1).symm;replace hw3:=Own.modRS hw3 e6 (sp1.2.2.1.2.2.1).symm;replace hw4:=Own.modRS hw4 e6 (sp1.2.2.2.1.2.1).symm;replace hw5:=Own.modRS hw5 e6 (sp1.2.2.2.2.1.1).symm;replace hw7:=Own.modRS hw7 e6 sp1.2.2.2.2.2.1.1;replace hw8:=Own.modRS hw8 e6 sp1.2.2.2.2.2.1.2.1;replace hrow:=RowK.modRS hrow e6 (by simp)
  have z7:=e6c.size
  refine Qa (Qe Z) Z (Qd (Qf (Qh [true,true,true,true,true,true,false,true] Z Z (Qa (Qc Z) Z (Qa (Qc Z) Z (Qa (Q1 (i:=i) U8 Z Z (RowK.same1 hrow hl0 hn0) (by simp;omega)) Z (Qa (Qz Hl Z) Z (Qa (Qj G5 Z ((RowK.at hrow hl0).one 6 Z)) Z (Qa (Qc Z) Z (Kj Tryz.call72 Z Z (markBoolS o7 (bl o7) (bh o7) ((xs[i]'hlt).caps) ((((((q + 5 * ((xs[i]'hlt).queue).length) + 5 * ((xs[i]'hlt).staged).length) + 5 * ((xs[i]'hlt).inputs).length) + 4 * ((xs[i]'hlt).cells).length) + 1 * ((xs[i]'hlt).sums).length) + 1 * ((xs[i]'hlt).black).length) _ (Own.tight hw7) (by first | omega | (simp only [Qi];omega) | (rw [Qi];done) | (simp only [Qi];done))) Z (fun _ w8 e7 hv=>?_)))))))))))
  obtain ⟨rfl,hw7'⟩:=hv
  have e7c:=ModR.loose e7 (Own.blk hw7)
  replace hw7:=Own.loose hw7' (Own.blk hw7)
  clear hw7'
  replace E:=E.trans e7c (by omega) (by omega);replace hw1:=Own.modRS hw1 e7 (sp1.1.2.2.2.2.2.1).symm;replace hw2:=Own.modRS hw2 e7 (sp1.2.1.2.2.2.2.1).symm;replace hw3:=Own.modRS hw3 e7 (sp1.2.2.1.2.2.2.1).symm;replace hw4:=Own.modRS hw4 e7 (sp1.2.2.2.1.2.2.1).symm;replace hw5:=Own.modRS hw5 e7 (sp1.2.2.2.2.1.2.1).symm;replace hw6:=Own.modRS hw6 e7 (sp1.2.2.2.2.2.1.1).symm;replace hw8:=Own.modRS hw8 e7 sp1.2.2.2.2.2.2.1.1;replace hrow:=RowK.modRS hrow e7 (by simp)
  have z8:=e7c.size
  refine Qa (Qe Z) Z (Qd (Qh [true,true,true,true,true,true,false,true] Z Z (Qa (Qc Z) Z (Qa (Qc Z) Z (Qa (Q1 (i:=i) U8 Z Z (RowK.same1 hrow hl0 hn0) (by simp;omega)) Z (Qa (Qz Gk Z) Z (Qa (Qj A0 Z ((RowK.at hrow hl0).one 7 Z)) Z (Qa (Qc Z) Z (Kj Tryz.call73 Z Z (markDoneS o8 (bl o8) (bh o8) ((xs[i]'hlt).dones) (((((((q + 5 * ((xs[i]'hlt).queue).length) + 5 * ((xs[i]'hlt).staged).length) + 5 * ((xs[i]'hlt).inputs).length) + 4 * ((xs[i]'hlt).cells).length) + 1 * ((xs[i]'hlt).sums).length) + 1 * ((xs[i]'hlt).black).length) + 1 * ((xs[i]'hlt).caps).length) _ (Own.tight hw8) (by first | omega | (simp only [Qi];omega) | (rw [Qi];done) | (simp only [Qi];done))) Z (fun _ w9 e8 hv=>?_))))))))))
  obtain ⟨rfl,hw8'⟩:=hv
  have e8c:=ModR.loose e8 (Own.blk hw8)
  replace hw8:=Own.loose hw8' (Own.blk hw8)
  clear hw8'
  replace E:=E.trans e8c (by omega) (by omega);replace hw1:=Own.modRS hw1 e8 (sp1.1.2.2.2.2.2.2.1).symm;replace hw2:=Own.modRS hw2 e8 (sp1.2.1.2.2.2.2.2.1).symm;replace hw3:=Own.modRS hw3 e8 (sp1.2.2.1.2.2.2.2.1).symm;replace hw4:=Own.modRS hw4 e8 (sp1.2.2.2.1.2.2.2.1).symm;replace hw5:=Own.modRS hw5 e8 (sp1.2.2.2.2.1.2.2.1).symm;replace hw6:=Own.modRS hw6 e8 (sp1.2.2.2.2.2.1.2.1).symm;replace hw7:=Own.modRS hw7 e8 (sp1.2.2.2.2.2.2.1.1).symm;replace hrow:=RowK.modRS hrow e8 (by simp)
  have z9:=e8c.size
  refine Qa (Qe Z) Z (Qd (Q4 (Yr (Qh [true,true,true] Z Z (Qa (Qc Z) Z (Qa (Q8 Z Z (Ye (by unfold maxLen;omega))) Z (Qa (Qe Z) Z (Qd ?_))))))))
  have hxs:=RowK.close hrow (Worker.mkO (⟨V2 5 Ky q ((xs[i]'hlt).queue).length,V2 5 Ky (q + 5 * ((xs[i]'hlt).queue).length) ((xs[i]'hlt).staged).length,V2 5 Ky ((q + 5 * ((xs[i]'hlt).queue).length) + 5 * ((xs[i]'hlt).staged).length) ((xs[i]'hlt).inputs).length,V2 4 To (((q + 5 * ((xs[i]'hlt).queue).length) + 5 * ((xs[i]'hlt).staged).length) + 5 * ((xs[i]'hlt).inputs).length) ((xs[i]'hlt).cells).length,V2 1 An ((((q + 5 * ((xs[i]'hlt).queue).length) + 5 * ((xs[i]'hlt).staged).length) + 5 * ((xs[i]'hlt).inputs).length) + 4 * ((xs[i]'hlt).cells).length) ((xs[i]'hlt).sums).length,V2 1 Ce (((((q + 5 * ((xs[i]'hlt).queue).length) + 5 * ((xs[i]'hlt).staged).length) + 5 * ((xs[i]'hlt).inputs).length) + 4 * ((xs[i]'hlt).cells).length) + 1 * ((xs[i]'hlt).sums).length) ((xs[i]'hlt).black).length,V2 1 Ce ((((((q + 5 * ((xs[i]'hlt).queue).length) + 5 * ((xs[i]'hlt).staged).length) + 5 * ((xs[i]'hlt).inputs).length) + 4 * ((xs[i]'hlt).cells).length) + 1 * ((xs[i]'hlt).sums).length) + 1 * ((xs[i]'hlt).black).length) ((xs[i]'hlt).caps).length,V2 2 C9 (((((((q + 5 * ((xs[i]'hlt).queue).length) + 5 * ((xs[i]'hlt).staged).length) + 5 * ((xs[i]'hlt).inputs).length) + 4 * ((xs[i]'hlt).cells).length) + 1 * ((xs[i]'hlt).sums).length) + 1 * ((xs[i]'hlt).black).length) + 1 * ((xs[i]'hlt).caps).length) ((xs[i]'hlt).dones).length⟩ : Worker) sp1 (Own.widen hw1 (by omega) (by omega)) (Own.widen hw2 (by omega) (by omega)) (Own.widen hw3 (by omega) (by omega)) (Own.widen hw4 (by omega) (by omega)) (Own.widen hw5 (by omega) (by omega)) (Own.widen hw6 (by omega) (by omega)) (Own.widen hw7 (by omega) (by omega)) (Own.widen hw8 (by omega) (by omega)))
  refine Q4 (Yc (i + 1,(((((((q + 5 * ((xs[i]'hlt).queue).length) + 5 * ((xs[i]'hlt).staged).length) + 5 * ((xs[i]'hlt).inputs).length) + 4 * ((xs[i]'hlt).cells).length) + 1 * ((xs[i]'hlt).sums).length) + 1 * ((xs[i]'hlt).black).length) + 1 * ((xs[i]'hlt).caps).length) + 2 * ((xs[i]'hlt).dones).length) (by simp;omega) ⟨Z,Z,Z,Z,trivial⟩ ⟨E,(by omega),(by omega),(by rw [Gi hlt,← hq];rfl),(by rw [Tp hlt,← hq];exact hxs)⟩)
 ·have hc1n : ¬ i < xs.length:=by first | (have h:=of_decide_eq_false hc1;omega) | (have h:=hc1;simp at h;omega)
  refine Yn (Q5 (Q3 ?_))
  refine Qf (Qh [true,true] Z Z (Qa (Qc Z) Z (Qa (Qe Z) Z (Qd (Qw (Ql Z Z E ?_))))))
  have hi9 : xs.length ≤ i:=by have h:=of_decide_eq_false hc1;omega
  rw [List.take_of_length_le hi9] at hq hxs
  rw [List.drop_of_length_le hi9,List.append_nil] at hxs
  exact ⟨by rw [hq],hxs.1,hxs.2⟩

set_option maxHeartbeats 4000000 in
set_option maxRecDepth 20000 in
theorem markLinkS (vxs : Value) (lo hi : Nat) (fp : List Nat) (xs : List Link) (k : Nat) (w : World) (gxs : OwF w lo hi vxs xs fp) (hhi : hi ≤ w.heap.size) (hb : k + 5 * X1 Xl xs ≤ 1099511627776) : CtR Tryz.prog 33 [vxs,.int .i64 ((k : Nat) : Int)] w lo hi (fun v w'=>v = .int .i64 (((Xv U7) k xs : Nat) : Int) ∧ OwF w' lo hi vxs ((X0 U7 U5) k xs) fp ∧ Kq w w' fp):=by
 have hxs : OwK w fp w lo hi vxs xs:=⟨gxs,Kq.refl _ _⟩
 have hmx : xs.length ≤ maxLen:=hxs.rd.1.1
 unfold maxLen at hmx
 refine Vs Tryz.func33 Z Tryz.ntmps33 Z ?_
 refine Q7 [(0,vxs),(1,.int .i64 ((k : Nat) : Int))] ⟨Z,Z,trivial⟩ ?_
 have E : ModR w w lo hi:=ModR.refl w lo hi
 refine Qf (Qh [true] Z Z (Qa (Qe Z) Z (Qd (Qf (Qf (Qh [true] Z Z (Qa (Qe Z) Z (Qd (Q0 (Ym (fun (xq : Nat × Nat)=>let ⟨i,q⟩:=xq;[(0,vxs),(1,.int .i64 ((q : Nat) : Int)),(4,.int .i64 0),(5,.int .i64 ((i : Nat) : Int))]) (fun (xq : Nat × Nat) w'=>let ⟨i,q⟩:=xq;ModR w w' lo hi ∧ w.heap.size ≤ w'.heap.size ∧ i ≤ xs.length ∧ q = (Xv U7) k (xs.take i) ∧ OwK w fp w' lo hi vxs ((X0 U7 U5) k (xs.take i) ++ xs.drop i)) (fun (xq : Nat × Nat)=>let ⟨i,q⟩:=xq;xs.length - i) (0,k) ⟨Z,Z,Z,Z,trivial⟩ ⟨E,Nat.le_refl _,Nat.zero_le _,Z,(by simpa [X0] using hxs)⟩ ?_))))))))))
 clear E hxs
 rintro ⟨i,q⟩ w1 ⟨E,z1,hi0,hq,hxs⟩
 refine Q7 [(0,vxs),(1,.int .i64 ((q : Nat) : Int)),(4,.int .i64 0),(5,.int .i64 ((i : Nat) : Int))] ⟨Z,Z,Z,Z,trivial⟩ ?_
 refine Qf (Qf (Qh [true,true,true,true] Z Z (Qa (Qc Z) Z (Qa (Qc Z) Z (Qa (Ya Tryz.underlying36 Z (OwK.lenE (n:=xs.length) hxs (by simp [Ue];omega))) Z (Qa (Yf Z Z) Z (Qd (Qs Z (fun hc1=>?_) (fun hc1=>?_)))))))))
 ·have hlt : i < xs.length:=by have h:=of_decide_eq_true hc1;omega
  rw [Ac hlt] at hxs
  obtain ⟨_,ho1,hrow⟩:=OwK.focus hxs
  obtain ⟨o1,rfl,sp1,hw1⟩:=Link.opO ho1
  clear hxs
  have hl0 : ((X0 U7 U5) k (xs.take i)).length = i:=by rw [Ue];simp;omega
  have hn0 : i + 1 + (xs.drop (i + 1)).length = xs.length:=by simp;omega
  have hqk:=Ck (k:=k) Al hlt;rw [← hq] at hqk;unfold U7 at hqk
  have hc1n : i < xs.length:=by first | (have h:=of_decide_eq_true hc1;omega) | (have h:=hc1;simp at h;omega)
  refine Qn (Qf (Q0 (Qf (Qh [true,true,true,true,true,false] Z Z (Qa (Qc Z) Z (Qa (Qc Z) Z (Qa (Qc Z) Z (Qa (Q1 (i:=i) Gg Z Z (RowK.same1 hrow hl0 hn0) (by simp;omega)) Z (Qa (Qz Uz Z) Z ?_)))))))))
  have hq1:=RowK.sep hrow (u:=o1) (by simp)
  have hqb:=RowK.blk hrow
  refine Uw (i:=i) (f:=0) (cs':=[.int .i64 ((q : Nat) : Int),o1,.int .i64 ((xs[i]'hlt).credits),.int .i64 ((xs[i]'hlt).back),.int .i64 ((xs[i]'hlt).sent),.int .i64 ((xs[i]'hlt).got)]) Yo Z Z Z Z hrow hl0 (by decide) Z Z (fun w2 m1 hrow'=>?_)
  replace hrow:=hrow'
  replace E:=E.mod m1 (fun g hg=>by have:=hqb g hg;omega);replace hw1:=Own.modS hw1 m1 hq1
  have z2:=m1.size
  clear hqb hq1
  refine Qd (Qf (Qh [true,true,true] Z Z (Qa (Qc Z) Z (Qa (Q8 Z Z (Ye (by unfold maxLen;omega))) Z (Qa (Qe Z) Z (Qd (Qf (Qh [true,true,true,true,true,true,false,true] Z Z (Qa (Qc Z) Z (Qa (Qc Z) Z (Qa (Q1 (i:=i) Gg Z Z (RowK.same1 hrow hl0 hn0) (by simp;omega)) Z (Qa (Qz Kt Z) Z (Qa (Qj Xy Z ((RowK.at hrow hl0).one 1 Z)) Z (Qa (Qc Z) Z (Kj Tryz.call69 Z Z (markRecordS o1 (bl o1) (bh o1) ((xs[i]'hlt).queue) (q + 1) _ (Own.tight hw1) (by first | omega | (simp only [Qi];omega) | (rw [Qi];done) | (simp only [Qi];done))) Z (fun _ w3 e1 hv=>?_))))))))))))))))
  obtain ⟨rfl,hw1'⟩:=hv
  have e1c:=ModR.loose e1 (Own.blk hw1)
  replace hw1:=Own.loose hw1' (Own.blk hw1)
  clear hw1'
  replace E:=E.trans e1c (by omega) (by omega);replace hrow:=RowK.modRS hrow e1 (by simp)
  have z3:=e1c.size
  refine Qa (Qe Z) Z (Qd (Qf (Qh [true,true,true,true,true,false] Z Z (Qa (Qc Z) Z (Qa (Qc Z) Z (Qa (Qc Z) Z (Qa (Q1 (i:=i) Gg Z Z (RowK.same1 hrow hl0 hn0) (by simp;omega)) Z (Qa (Qz Hd Z) Z ?_))))))))
  have hq2:=RowK.sep hrow (u:=o1) (by simp)
  have hqb:=RowK.blk hrow
  refine Uw (i:=i) (f:=2) (cs':=[.int .i64 ((q : Nat) : Int),o1,.int .i64 (((q + 1) + 5 * ((xs[i]'hlt).queue).length : Nat) : Int),.int .i64 ((xs[i]'hlt).back),.int .i64 ((xs[i]'hlt).sent),.int .i64 ((xs[i]'hlt).got)]) Yo Z Z Z Z hrow hl0 (by decide) Z Z (fun w4 m2 hrow'=>?_)
  replace hrow:=hrow'
  replace E:=E.mod m2 (fun g hg=>by have:=hqb g hg;omega);replace hw1:=Own.modS hw1 m2 hq2
  have z4:=m2.size
  clear hqb hq2
  refine Qd (Qf (Qh [true,true,true] Z Z (Qa (Qc Z) Z (Qa (Q8 Z Z (Ye (by unfold maxLen;omega))) Z (Qa (Qe Z) Z (Qd (Qf (Qh [true,true,true,true,true,false] Z Z (Qa (Qc Z) Z (Qa (Qc Z) Z (Qa (Qc Z) Z (Qa (Q1 (i:=i) Gg Z Z (RowK.same1 hrow hl0 hn0) (by simp;omega)) Z (Qa (Qz Hc Z) Z ?_)))))))))))))
  have hq3:=RowK.sep hrow (u:=o1) (by simp)
  have hqb:=RowK.blk hrow
  refine Uw (i:=i) (f:=3) (cs':=[.int .i64 ((q : Nat) : Int),o1,.int .i64 (((q + 1) + 5 * ((xs[i]'hlt).queue).length : Nat) : Int),.int .i64 (((q + 1) + 5 * ((xs[i]'hlt).queue).length + 1 : Nat) : Int),.int .i64 ((xs[i]'hlt).sent),.int .i64 ((xs[i]'hlt).got)]) Yo Z Z Z Z hrow hl0 (by decide) Z Z (fun w5 m3 hrow'=>?_)
  replace hrow:=hrow'
  replace E:=E.mod m3 (fun g hg=>by have:=hqb g hg;omega);replace hw1:=Own.modS hw1 m3 hq3
  have z5:=m3.size
  clear hqb hq3
  refine Qd (Qf (Qh [true,true,true] Z Z (Qa (Qc Z) Z (Qa (Q8 Z Z (Ye (by unfold maxLen;omega))) Z (Qa (Qe Z) Z (Qd (Qf (Qh [true,true,true,true,true,false] Z Z (Qa (Qc Z) Z (Qa (Qc Z) Z (Qa (Qc Z) Z (Qa (Q1 (i:=i) Gg Z Z (RowK.same1 hrow hl0 hn0) (by simp;omega)) Z (Qa (Qz Hb Z) Z ?_)))))))))))))
  have hq4:=RowK.sep hrow (u:=o1) (by simp)
  have hqb:=RowK.blk hrow
  refine Uw (i:=i) (f:=4) (cs':=[.int .i64 ((q : Nat) : Int),o1,.int .i64 (((q + 1) + 5 * ((xs[i]'hlt).queue).length : Nat) : Int),.int .i64 (((q + 1) + 5 * ((xs[i]'hlt).queue).length + 1 : Nat) : Int),.int .i64 (((q + 1) + 5 * ((xs[i]'hlt).queue).length + 1 + 1 : Nat) : Int),.int .i64 ((xs[i]'hlt).got)]) Yo Z Z Z Z hrow hl0 (by decide) Z Z (fun w6 m4 hrow'=>?_)
  replace hrow:=hrow'
  replace E:=E.mod m4 (fun g hg=>by have:=hqb g hg;omega);replace hw1:=Own.modS hw1 m4 hq4
  have z6:=m4.size
  clear hqb hq4
  refine Qd (Qf (Qh [true,true,true] Z Z (Qa (Qc Z) Z (Qa (Q8 Z Z (Ye (by unfold maxLen;omega))) Z (Qa (Qe Z) Z (Qd (Qf (Qh [true,true,true,true,true,false] Z Z (Qa (Qc Z) Z (Qa (Qc Z) Z (Qa (Qc Z) Z (Qa (Q1 (i:=i) Gg Z Z (RowK.same1 hrow hl0 hn0) (by simp;omega)) Z (Qa (Qz Ha Z) Z ?_)))))))))))))
  have hq5:=RowK.sep hrow (u:=o1) (by simp)
  have hqb:=RowK.blk hrow
  refine Uw (i:=i) (f:=5) (cs':=[.int .i64 ((q : Nat) : Int),o1,.int .i64 (((q + 1) + 5 * ((xs[i]'hlt).queue).length : Nat) : Int),.int .i64 (((q + 1) + 5 * ((xs[i]'hlt).queue).length + 1 : Nat) : Int),.int .i64 (((q + 1) + 5 * ((xs[i]'hlt).queue).length + 1 + 1 : Nat) : Int),.int .i64 (((q + 1) + 5 * ((xs[i]'hlt).queue).length + 1 + 1 + 1 : Nat) : Int)]) Yo Z Z Z Z hrow hl0 (by decide) Z Z (fun w7 m5 hrow'=>?_)
  replace hrow:=hrow'
  replace E:=E.mod m5 (fun g hg=>by have:=hqb g hg;omega);replace hw1:=Own.modS hw1 m5 hq5
  have z7:=m5.size
  clear hqb hq5
  refine Qd (Qh [true,true,true] Z Z (Qa (Qc Z) Z (Qa (Q8 Z Z (Ye (by unfold maxLen;omega))) Z (Qa (Qe Z) Z (Qd (Q4 (Yr (Qh [true,true,true] Z Z (Qa (Qc Z) Z (Qa (Q8 Z Z (Ye (by unfold maxLen;omega))) Z (Qa (Qe Z) Z (Qd ?_))))))))))))
  have hxs:=RowK.close hrow (Link.mkO (⟨((q : Nat) : Int),V2 5 Ky (q + 1) ((xs[i]'hlt).queue).length,(((q + 1) + 5 * ((xs[i]'hlt).queue).length : Nat) : Int),(((q + 1) + 5 * ((xs[i]'hlt).queue).length + 1 : Nat) : Int),(((q + 1) + 5 * ((xs[i]'hlt).queue).length + 1 + 1 : Nat) : Int),(((q + 1) + 5 * ((xs[i]'hlt).queue).length + 1 + 1 + 1 : Nat) : Int)⟩ : Link) sp1 (Own.widen hw1 (by omega) (by omega)))
  refine Q4 (Yc (i + 1,(q + 1) + 5 * ((xs[i]'hlt).queue).length + 1 + 1 + 1 + 1) (by simp;omega) ⟨Z,Z,Z,Z,trivial⟩ ⟨E,(by omega),(by omega),(by rw [Gi hlt,← hq];rfl),(by rw [Tp hlt,← hq];exact hxs)⟩)
 ·have hc1n : ¬ i < xs.length:=by first | (have h:=of_decide_eq_false hc1;omega) | (have h:=hc1;simp at h;omega)
  refine Yn (Q5 (Q3 ?_))
  refine Qf (Qh [true,true] Z Z (Qa (Qc Z) Z (Qa (Qe Z) Z (Qd (Qw (Ql Z Z E ?_))))))
  have hi9 : xs.length ≤ i:=by have h:=of_decide_eq_false hc1;omega
  rw [List.take_of_length_le hi9] at hq hxs
  rw [List.drop_of_length_le hi9,List.append_nil] at hxs
  exact ⟨by rw [hq],hxs.1,hxs.2⟩

set_option maxRecDepth 20000 in
theorem markCluster (o1x o2x o3x o4x o5x : Value) (lo hi : Nat) (x : Cluster) (k : Nat) (w : World) (hx : OwC w lo hi o1x o2x o3x o4x o5x x) (hhi : hi ≤ w.heap.size) (hb : k + 5 * Yg x ≤ 1099511627776) : CtR Tryz.prog 9 [.agg [o1x,.int .i64 x.graph.workers,.int .i64 x.graph.cap,o2x,o3x,o4x,o5x].toArray,.int .i64 ((k : Nat) : Int)] w lo hi (fun v w'=>v = .int .i64 ((Vb k x : Nat) : Int) ∧ OwC w' lo hi o1x o2x o3x o4x o5x (Uj k x)):=by
 unfold Yg Xa at hb
 have b1:=@Hw _ _ _ 4 Ak k x.graph.nodes
 have b2:=@Hw _ _ _ 5 Bv (Xv Kc k x.graph.nodes) x.workers
 have b3:=@Hw _ _ _ 5 Al (Xv V6 (Xv Kc k x.graph.nodes) x.workers) x.links
 refine Vs Tryz.func9 Z Tryz.ntmps9 Z ?_
 obtain ⟨f1,f2,f3,hw1,hw2,hw3,hw4,hw5,sp1⟩:=hx
 refine Q7 [(0,.agg [o1x,.int .i64 x.graph.workers,.int .i64 x.graph.cap,o2x,o3x,o4x,o5x].toArray),(1,.int .i64 ((k : Nat) : Int))] ⟨Z,Z,trivial⟩ ?_
 have E : ModR w w lo hi:=ModR.refl w lo hi
 refine Qf (Qh [false,true] Z Z (Y1 Z Z (fun b1 w1 e1 s1 h1=>?_)))
 have g_b1 : w.heap.size ≤ b1:=by have:=E.size;omega
 have y_b1:=h1.lt
 replace E:=E.ext e1;replace hw1:=hw1.ext e1;replace hw2:=hw2.ext e1;replace hw3:=hw3.ext e1;replace hw4:=hw4.ext e1;replace hw5:=hw5.ext e1
 have z1:=e1.size
 refine Qa (Qe Z) Z (Qd (Qf (Qh [true,true,true,false,true] Z Z (Qa (Qb Ur Z) Z (Qa (Qt Km Z (h1.part 0 [o1x,.int .i64 x.graph.workers,.int .i64 x.graph.cap] Z) Z) Z (Qa (Qc Z) Z (Kj Tryz.call31 Z Z (markGraph o1x lo hi f1 x.graph k _ hw1 (by omega) (by unfold Xa;omega)) Z (fun _ w2 e2 hv=>?_))))))))
 obtain ⟨rfl,hw1',kq1⟩:=hv
 replace hw1:=hw1'
 replace E:=E.trans e2 (by omega) (by omega);replace hw2:=OwF.kp hw2 (Kq.kp kq1 (sp1.1.1).symm);replace hw3:=OwF.kp hw3 (Kq.kp kq1 (sp1.1.2.1).symm);replace hw4:=Own.kp hw4 (Kq.kp kq1 (sp1.1.2.2.1).symm);replace hw5:=Own.kp hw5 (Kq.kp kq1 (sp1.1.2.2.2.1).symm);replace h1:=h1.modR e2 (by omega)
 have z2:=e2.size
 refine Qa (Qe Z) Z (Qd (Qf (Qh [true,true,true,false,true] Z Z (Qa (Qb Kh Z) Z (Qa (Qj Gh Z (h1.one 3 Z)) Z (Qa (Qc Z) Z (Kj Tryz.call32 Z Z (markWorkerS o2x lo hi f2 x.workers (Xv Kc k x.graph.nodes) _ hw2 (by omega) (by omega)) Z (fun _ w3 e3 hv=>?_))))))))
 obtain ⟨rfl,hw2',kq2⟩:=hv
 replace hw2:=hw2'
 replace E:=E.trans e3 (by omega) (by omega);replace hw1:=OwF.kp hw1 (Kq.kp kq2 sp1.1.1);replace hw3:=OwF.kp hw3 (Kq.kp kq2 (sp1.2.1.1).symm);replace hw4:=Own.kp hw4 (Kq.kp kq2 (sp1.2.1.2.1).symm);replace hw5:=Own.kp hw5 (Kq.kp kq2 (sp1.2.1.2.2.1).symm);replace h1:=h1.modR e3 (by omega)
 have z3:=e3.size
 refine Qa (Qe Z) Z (Qd (Qf (Qh [true,true,true,false,true] Z Z (Qa (Qb Uk Z) Z (Qa (Qj H2 Z (h1.one 4 Z)) Z (Qa (Qc Z) Z (Kj Tryz.call33 Z Z (markLinkS o3x lo hi f3 x.links ((Xv V6) (Xv Kc k x.graph.nodes) x.workers) _ hw3 (by omega) (by omega)) Z (fun _ w4 e4 hv=>?_))))))))
 obtain ⟨rfl,hw3',kq3⟩:=hv
 replace hw3:=hw3'
 replace E:=E.trans e4 (by omega) (by omega);replace hw1:=OwF.kp hw1 (Kq.kp kq3 sp1.1.2.1);replace hw2:=OwF.kp hw2 (Kq.kp kq3 sp1.2.1.1);replace hw4:=Own.kp hw4 (Kq.kp kq3 (sp1.2.2.1.1).symm);replace hw5:=Own.kp hw5 (Kq.kp kq3 (sp1.2.2.1.2.1).symm);replace h1:=h1.modR e4 (by omega)
 have z4:=e4.size
 refine Qa (Qe Z) Z (Qd (Qf (Qh [true,true,true,false,true] Z Z (Qa (Qb Vk Z) Z (Qa (Qj Cu Z (h1.one 5 Z)) Z (Qa (Qc Z) Z (Kj Tryz.call34 Z Z (markTokenS o4x (bl o4x) (bh o4x) x.tokens ((Xv U7) ((Xv V6) (Xv Kc k x.graph.nodes) x.workers) x.links) _ (Own.tight hw4) (by omega)) Z (fun _ w5 e5 hv=>?_))))))))
 obtain ⟨rfl,hw4'⟩:=hv
 have e5c:=ModR.loose e5 (Own.blk hw4)
 replace hw4:=Own.loose hw4' (Own.blk hw4)
 clear hw4'
 have kq4:=ModR.kq e5
 replace E:=E.trans e5c (by omega) (by omega);replace hw1:=OwF.kp hw1 (Kq.kp kq4 sp1.1.2.2.1);replace hw2:=OwF.kp hw2 (Kq.kp kq4 sp1.2.1.2.1);replace hw3:=OwF.kp hw3 (Kq.kp kq4 sp1.2.2.1.1);replace hw5:=Own.kp hw5 (Kq.kp kq4 (sp1.2.2.2.1.1).symm);replace h1:=h1.modR e5c (by omega)
 have z5:=e5c.size
 refine Qa (Qe Z) Z (Qd (Qf (Qh [true,true,true,false,true] Z Z (Qa (Qb Hn Z) Z (Qa (Qj B7 Z (h1.one 6 Z)) Z (Qa (Qc Z) Z (Kj Tryz.call35 Z Z (markNewsS o5x (bl o5x) (bh o5x) x.news (((Xv U7) ((Xv V6) (Xv Kc k x.graph.nodes) x.workers) x.links) + 5 * x.tokens.length) _ (Own.tight hw5) (by omega)) Z (fun _ w6 e6 hv=>?_))))))))
 obtain ⟨rfl,hw5'⟩:=hv
 have e6c:=ModR.loose e6 (Own.blk hw5)
 replace hw5:=Own.loose hw5' (Own.blk hw5)
 clear hw5'
 have kq5:=ModR.kq e6
 replace E:=E.trans e6c (by omega) (by omega);replace hw1:=OwF.kp hw1 (Kq.kp kq5 sp1.1.2.2.2.1);replace hw2:=OwF.kp hw2 (Kq.kp kq5 sp1.2.1.2.2.1);replace hw3:=OwF.kp hw3 (Kq.kp kq5 sp1.2.2.1.2.1);replace hw4:=Own.kp hw4 (Kq.kp kq5 sp1.2.2.2.1.1);replace h1:=h1.modR e6c (by omega)
 have z6:=e6c.size
 refine Qa (Qe Z) Z (Qd (Qf (Qh [true,true] Z Z (Qa (Qc Z) Z (Qa (Qe Z) Z (Qd (Qw (Ql Z Z E ?_))))))))
 exact ⟨Z,_,_,_,hw1,hw2,hw3,hw4,hw5,sp1⟩

set_option maxRecDepth 20000 in
theorem heldNodeS (vxs : Value) (xs : List Node) (k : Nat) (w : World) (hxs : RdD w 0 w.heap.size vxs xs) (hm : xs = (X0 Kc U4) k xs) (hb : k + 4 * X1 Xx xs ≤ 1099511627776) : Ct Tryz.prog 74 [vxs,.int .i64 ((k : Nat) : Int)] w (fun v _=>v = .int .i64 ((Xv Kc k xs : Nat) : Int)):=by
 refine Yh Tryz.func74 Z Tryz.ntmps74 Z ?_
 refine Q7 [(0,vxs),(1,.int .i64 ((k : Nat) : Int))] ⟨Z,Z,trivial⟩ ?_
 have E : Ext w w:=Ext.refl w
 refine Qf (Qh [true] Z Z (Qa (Qe Z) Z (Qd (Qf (Qf (Qh [true] Z Z (Qa (Qe Z) Z (Qd (Q0 (Ym (fun (xq : Nat × Nat)=>let ⟨i,q⟩:=xq;[(0,vxs),(1,.int .i64 ((q : Nat) : Int)),(4,.int .i64 0),(5,.int .i64 ((i : Nat) : Int))]) (fun (xq : Nat × Nat) w'=>let ⟨i,q⟩:=xq;Ext w w' ∧ w.heap.size ≤ w'.heap.size ∧ i ≤ xs.length ∧ q = (Xv Kc) k (xs.take i)) (fun (xq : Nat × Nat)=>let ⟨i,q⟩:=xq;xs.length - i) (0,k) ⟨Z,Z,Z,Z,trivial⟩ ⟨E,Nat.le_refl _,Nat.zero_le _,Z⟩ ?_))))))))))
 clear E
 rintro ⟨i,q⟩ w1 ⟨E,z1,hi,hq⟩
 refine Q7 [(0,vxs),(1,.int .i64 ((q : Nat) : Int)),(4,.int .i64 0),(5,.int .i64 ((i : Nat) : Int))] ⟨Z,Z,Z,Z,trivial⟩ ?_
 have hmx:=hxs.1.1
 unfold maxLen at hmx
 refine Qf (Qf (Qh [true,true,true,true] Z Z (Qa (Qc Z) Z (Qa (Qc Z) Z (Qa (Ya Tryz.underlying32 Z (hxs.ext E).len) Z (Qa (Yf Z Z) Z (Qd (Qs Z (fun hc1=>?_) (fun hc1=>?_)))))))))
 ·have hlt : i < xs.length:=by have h:=of_decide_eq_true hc1;omega
  have hqk:=Ck (k:=k) Ak hlt;rw [← hq] at hqk;unfold Kc at hqk
  have hx:=Di hm hlt;rw [← hq] at hx
  have hc1n : i < xs.length:=by first | (have h:=of_decide_eq_true hc1;omega) | (have h:=hc1;simp at h;omega)
  refine Qn (Qf (Q0 (Qf (Qf (Qh [true,true,true,true,true,true,true] Z Z (Qa (Qc Z) Z (Qa (Qc Z) Z ?_)))))))
  have hi1 : i < xs.length:=(by first | assumption | omega | (simp only [List.length_set];first | assumption | omega))
  obtain ⟨_,hr1,ha1⟩:=RdD.get hxs hi1
  obtain ⟨o1,rfl,hd1⟩:=Node.op hr1
  replace ha1 : At w (Xf vxs) (Xm vxs + i * 4) [.int .i64 ((xs[i]'hi1).kind),.int .i64 ((xs[i]'hi1).a),.int .i64 ((xs[i]'hi1).b),o1]:=ha1
  refine Qa (Q1 (i:=i) Gv Z Z (hxs.ext E).1 hi1) Z (Qa (Qz Xk Z) Z (Qa (Qj Yo Z ((ha1.ext E).one 0 Z)) Z (Qa (Qc Z) Z (Qa (Yu Z Z) Z (Qd (Yy Z (by rw [hx];simp [U4,Qi]) (Qn (Qf (Qh [true,true,true] Z Z (Qa (Qc Z) Z (Qa (Q8 Z Z (Ye (by unfold maxLen;omega))) Z (Qa (Qe Z) Z (Qd (Qf (Qf (Qh [true,true,true,true,true,true,true] Z Z (Qa (Qc Z) Z (Qa (Qc Z) Z (Qa (Q1 (i:=i) Gv Z Z (hxs.ext E).1 hi1) Z (Qa (Qz X2 Z) Z (Qa (Qj Yo Z ((ha1.ext E).one 1 Z)) Z (Qa (Qc Z) Z (Qa (Yu Z Z) Z (Qd (Yy Z (by rw [hx];simp [U4,Qi]) (Qn (Qf (Qh [true,true,true] Z Z (Qa (Qc Z) Z (Qa (Q8 Z Z (Ye (by unfold maxLen;omega))) Z (Qa (Qe Z) Z (Qd (Qf (Qf (Qh [true,true,true,true,true,true,true] Z Z (Qa (Qc Z) Z (Qa (Qc Z) Z (Qa (Q1 (i:=i) Gv Z Z (hxs.ext E).1 hi1) Z (Qa (Qz Uf Z) Z (Qa (Qj Yo Z ((ha1.ext E).one 2 Z)) Z (Qa (Qc Z) Z (Qa (Yu Z Z) Z (Qd (Yy Z (by rw [hx];simp [U4,Qi]) (Qn (Qf (Qh [true,true,true] Z Z (Qa (Qc Z) Z (Qa (Q8 Z Z (Ye (by unfold maxLen;omega))) Z (Qa (Qe Z) Z (Qd (Qf (Qh [true,true,true,true,true,true,false,true] Z Z (Qa (Qc Z) Z (Qa (Qc Z) Z (Qa (Q1 (i:=i) Gv Z Z (hxs.ext E).1 hi1) Z (Qa (Qz Y8 Z) Z (Qa (Qj Ke Z ((ha1.ext E).one 3 Z)) Z (Qa (Qc Z) Z (Qv Tryz.call77 Z (heldIntS o1 ((xs[i]'hi1).outs) (q + 1 + 1 + 1) _ (hd1.rd.ext E) (congrArg Node.outs hx) (by omega)) Z (fun _ w2 e1 hv=>?_)))))))))))))))))))))))))))))))))))))))))))))))))))))))))))))
  subst hv
  replace E:=E.trans e1
  have z2:=e1.size
  refine Qa (Qe Z) Z (Qd (Qf (Qh [true,true] Z Z (Qa (Qc Z) Z (Qa (Yf Z Z) Z (Qd (Yy Z (by first | (simp;done) | (simp only [Qo] <;> simp) | (simp only [Qi,Qo] <;> simp) | (simp only [Qi] <;> simp)) (Qn (Q4 (Yr (Qh [true,true,true] Z Z (Qa (Qc Z) Z (Qa (Q8 Z Z (Ye (by unfold maxLen;omega))) Z (Qa (Qe Z) Z (Qd (Q4 (Yc (i + 1,(q + 1 + 1 + 1) + 1 * ((xs[i]'hi1).outs).length) (by simp;omega) ⟨Z,Z,Z,Z,trivial⟩ ⟨E,(by omega),(by omega),(by rw [Gi (by omega),← hq];rfl)⟩)))))))))))))))))
 ·have hc1n : ¬ i < xs.length:=by first | (have h:=of_decide_eq_false hc1;omega) | (have h:=hc1;simp at h;omega)
  refine Yn (Q5 (Q3 ?_))
  refine Qf (Qh [true,true] Z Z (Qa (Qc Z) Z (Qa (Qe Z) Z (Qd (Qw (Ql Z Z E ?_))))))
  rw [hq,List.take_of_length_le (by omega)]

set_option maxHeartbeats 4000000 in
set_option maxRecDepth 20000 in
theorem heldWorkerS (vxs : Value) (xs : List Worker) (k : Nat) (w : World) (hxs : RdD w 0 w.heap.size vxs xs) (hm : xs = (X0 V6 Hx) k xs) (hb : k + 5 * X1 Yd xs ≤ 1099511627776) : Ct Tryz.prog 37 [vxs,.int .i64 ((k : Nat) : Int)] w (fun v _=>v = .int .i64 ((Xv V6 k xs : Nat) : Int)):=by
 refine Yh Tryz.func37 Z Tryz.ntmps37 Z ?_
 refine Q7 [(0,vxs),(1,.int .i64 ((k : Nat) : Int))] ⟨Z,Z,trivial⟩ ?_
 have E : Ext w w:=Ext.refl w
 refine Qf (Qh [true] Z Z (Qa (Qe Z) Z (Qd (Qf (Qf (Qh [true] Z Z (Qa (Qe Z) Z (Qd (Q0 (Ym (fun (xq : Nat × Nat)=>let ⟨i,q⟩:=xq;[(0,vxs),(1,.int .i64 ((q : Nat) : Int)),(4,.int .i64 0),(5,.int .i64 ((i : Nat) : Int))]) (fun (xq : Nat × Nat) w'=>let ⟨i,q⟩:=xq;Ext w w' ∧ w.heap.size ≤ w'.heap.size ∧ i ≤ xs.length ∧ q = (Xv V6) k (xs.take i)) (fun (xq : Nat × Nat)=>let ⟨i,q⟩:=xq;xs.length - i) (0,k) ⟨Z,Z,Z,Z,trivial⟩ ⟨E,Nat.le_refl _,Nat.zero_le _,Z⟩ ?_))))))))))
 clear E
 rintro ⟨i,q⟩ w1 ⟨E,z1,hi,hq⟩
 refine Q7 [(0,vxs),(1,.int .i64 ((q : Nat) : Int)),(4,.int .i64 0),(5,.int .i64 ((i : Nat) : Int))] ⟨Z,Z,Z,Z,trivial⟩ ?_
 have hmx:=hxs.1.1
 unfold maxLen at hmx
 refine Qf (Qf (Qh [true,true,true,true] Z Z (Qa (Qc Z) Z (Qa (Qc Z) Z (Qa (Ya Tryz.underlying35 Z (hxs.ext E).len) Z (Qa (Yf Z Z) Z (Qd (Qs Z (fun hc1=>?_) (fun hc1=>?_)))))))))
 ·have hlt : i < xs.length:=by have h:=of_decide_eq_true hc1;omega
  have hqk:=Ck (k:=k) Bv hlt;rw [← hq] at hqk;unfold V6 at hqk
  have hx:=Di hm hlt;rw [← hq] at hx
  have hc1n : i < xs.length:=by first | (have h:=of_decide_eq_true hc1;omega) | (have h:=hc1;simp at h;omega)
  refine Qn (Qf (Q0 (Qf (Qh [true,true,true,true,true,true,false,true] Z Z (Qa (Qc Z) Z (Qa (Qc Z) Z ?_))))))
  have hi1 : i < xs.length:=(by first | assumption | omega | (simp only [List.length_set];first | assumption | omega))
  obtain ⟨_,hr1,ha1⟩:=RdD.get hxs hi1
  obtain ⟨o1,o2,o3,o4,o5,o6,o7,o8,rfl,hd1,hd2,hd3,hd4,hd5,hd6,hd7,hd8⟩:=Worker.op hr1
  replace ha1 : At w (Xf vxs) (Xm vxs + i * 8) [o1,o2,o3,o4,o5,o6,o7,o8]:=ha1
  refine Qa (Q1 (i:=i) U8 Z Z (hxs.ext E).1 hi1) Z (Qa (Qz Vd Z) Z (Qa (Qj Xy Z ((ha1.ext E).one 0 Z)) Z (Qa (Qc Z) Z (Qv Tryz.call75 Z (heldRecordS o1 ((xs[i]'hi1).queue) q _ (hd1.rd.ext E) (congrArg Worker.queue hx) (by omega)) Z (fun _ w2 e1 hv=>?_)))))
  subst hv
  replace E:=E.trans e1
  have z2:=e1.size
  refine Qa (Qe Z) Z (Qd (Qf (Qf (Qh [true,true] Z Z (Qa (Qc Z) Z (Qa (Yf Z Z) Z (Qd (Yy Z (by first | (simp;done) | (simp only [Qo] <;> simp) | (simp only [Qi,Qo] <;> simp) | (simp only [Qi] <;> simp)) (Qn (Qf (Qh [true,true,true,true,true,true,false,true] Z Z (Qa (Qc Z) Z (Qa (Qc Z) Z (Qa (Q1 (i:=i) U8 Z Z (hxs.ext E).1 hi1) Z (Qa (Qz Gm Z) Z (Qa (Qj Xy Z ((ha1.ext E).one 1 Z)) Z (Qa (Qc Z) Z (Qv Tryz.call75 Z (heldRecordS o2 ((xs[i]'hi1).staged) (q + 5 * ((xs[i]'hi1).queue).length) _ (hd2.rd.ext E) (congrArg Worker.staged hx) (by omega)) Z (fun _ w3 e2 hv=>?_)))))))))))))))))))
  subst hv
  replace E:=E.trans e2
  have z3:=e2.size
  refine Qa (Qe Z) Z (Qd (Qf (Qf (Qh [true,true] Z Z (Qa (Qc Z) Z (Qa (Yf Z Z) Z (Qd (Yy Z (by first | (simp;done) | (simp only [Qo] <;> simp) | (simp only [Qi,Qo] <;> simp) | (simp only [Qi] <;> simp)) (Qn (Qf (Qh [true,true,true,true,true,true,false,true] Z Z (Qa (Qc Z) Z (Qa (Qc Z) Z (Qa (Q1 (i:=i) U8 Z Z (hxs.ext E).1 hi1) Z (Qa (Qz Vj Z) Z (Qa (Qj Xy Z ((ha1.ext E).one 2 Z)) Z (Qa (Qc Z) Z (Qv Tryz.call75 Z (heldRecordS o3 ((xs[i]'hi1).inputs) ((q + 5 * ((xs[i]'hi1).queue).length) + 5 * ((xs[i]'hi1).staged).length) _ (hd3.rd.ext E) (congrArg Worker.inputs hx) (by omega)) Z (fun _ w4 e3 hv=>?_)))))))))))))))))))
  subst hv
  replace E:=E.trans e3
  have z4:=e3.size
  refine Qa (Qe Z) Z (Qd (Qf (Qf (Qh [true,true] Z Z (Qa (Qc Z) Z (Qa (Yf Z Z) Z (Qd (Yy Z (by first | (simp;done) | (simp only [Qo] <;> simp) | (simp only [Qi,Qo] <;> simp) | (simp only [Qi] <;> simp)) (Qn (Qf (Qh [true,true,true,true,true,true,false,true] Z Z (Qa (Qc Z) Z (Qa (Qc Z) Z (Qa (Q1 (i:=i) U8 Z Z (hxs.ext E).1 hi1) Z (Qa (Qz Gl Z) Z (Qa (Qj A1 Z ((ha1.ext E).one 3 Z)) Z (Qa (Qc Z) Z (Qv Tryz.call76 Z (heldCellS o4 ((xs[i]'hi1).cells) (((q + 5 * ((xs[i]'hi1).queue).length) + 5 * ((xs[i]'hi1).staged).length) + 5 * ((xs[i]'hi1).inputs).length) _ (hd4.rd.ext E) (congrArg Worker.cells hx) (by omega)) Z (fun _ w5 e4 hv=>?_)))))))))))))))))))
  subst hv
  replace E:=E.trans e4
  have z5:=e4.size
  refine Qa (Qe Z) Z (Qd (Qf (Qf (Qh [true,true] Z Z (Qa (Qc Z) Z (Qa (Yf Z Z) Z (Qd (Yy Z (by first | (simp;done) | (simp only [Qo] <;> simp) | (simp only [Qi,Qo] <;> simp) | (simp only [Qi] <;> simp)) (Qn (Qf (Qh [true,true,true,true,true,true,false,true] Z Z (Qa (Qc Z) Z (Qa (Qc Z) Z (Qa (Q1 (i:=i) U8 Z Z (hxs.ext E).1 hi1) Z (Qa (Qz Hm Z) Z (Qa (Qj Ke Z ((ha1.ext E).one 4 Z)) Z (Qa (Qc Z) Z (Qv Tryz.call77 Z (heldIntS o5 ((xs[i]'hi1).sums) ((((q + 5 * ((xs[i]'hi1).queue).length) + 5 * ((xs[i]'hi1).staged).length) + 5 * ((xs[i]'hi1).inputs).length) + 4 * ((xs[i]'hi1).cells).length) _ (hd5.rd.ext E) (congrArg Worker.sums hx) (by omega)) Z (fun _ w6 e5 hv=>?_)))))))))))))))))))
  subst hv
  replace E:=E.trans e5
  have z6:=e5.size
  refine Qa (Qe Z) Z (Qd (Qf (Qf (Qh [true,true] Z Z (Qa (Qc Z) Z (Qa (Yf Z Z) Z (Qd (Yy Z (by first | (simp;done) | (simp only [Qo] <;> simp) | (simp only [Qi,Qo] <;> simp) | (simp only [Qi] <;> simp)) (Qn (Qf (Qh [true,true,true,true,true,true,false,true] Z Z (Qa (Qc Z) Z (Qa (Qc Z) Z (Qa (Q1 (i:=i) U8 Z Z (hxs.ext E).1 hi1) Z (Qa (Qz Ts Z) Z (Qa (Qj G5 Z ((ha1.ext E).one 5 Z)) Z (Qa (Qc Z) Z (Qv Tryz.call78 Z (heldBoolS o6 ((xs[i]'hi1).black) (((((q + 5 * ((xs[i]'hi1).queue).length) + 5 * ((xs[i]'hi1).staged).length) + 5 * ((xs[i]'hi1).inputs).length) + 4 * ((xs[i]'hi1).cells).length) + 1 * ((xs[i]'hi1).sums).length) _ (hd6.rd.ext E) (congrArg Worker.black hx) (by omega)) Z (fun _ w7 e6 hv=>?_)))))))))))))))))))
  subst hv
  replace E:=E.trans e6
  have z7:=e6.size
  refine Qa (Qe Z) Z (Qd (Qf (Qf (Qh [true,true] Z Z (Qa (Qc Z) Z (Qa (Yf Z Z) Z (Qd (Yy Z (by first | (simp;done) | (simp only [Qo] <;> simp) | (simp only [Qi,Qo] <;> simp) | (simp only [Qi] <;> simp)) (Qn (Qf (Qh [true,true,true,true,true,true,false,true] Z Z (Qa (Qc Z) Z (Qa (Qc Z) Z (Qa (Q1 (i:=i) U8 Z Z (hxs.ext E).1 hi1) Z (Qa (Qz Hl Z) Z (Qa (Qj G5 Z ((ha1.ext E).one 6 Z)) Z (Qa (Qc Z) Z (Qv Tryz.call78 Z (heldBoolS o7 ((xs[i]'hi1).caps) ((((((q + 5 * ((xs[i]'hi1).queue).length) + 5 * ((xs[i]'hi1).staged).length) + 5 * ((xs[i]'hi1).inputs).length) + 4 * ((xs[i]'hi1).cells).length) + 1 * ((xs[i]'hi1).sums).length) + 1 * ((xs[i]'hi1).black).length) _ (hd7.rd.ext E) (congrArg Worker.caps hx) (by omega)) Z (fun _ w8 e7 hv=>?_)))))))))))))))))))
  subst hv
  replace E:=E.trans e7
  have z8:=e7.size
  refine Qa (Qe Z) Z (Qd (Qf (Qf (Qh [true,true] Z Z (Qa (Qc Z) Z (Qa (Yf Z Z) Z (Qd (Yy Z (by first | (simp;done) | (simp only [Qo] <;> simp) | (simp only [Qi,Qo] <;> simp) | (simp only [Qi] <;> simp)) (Qn (Qf (Qh [true,true,true,true,true,true,false,true] Z Z (Qa (Qc Z) Z (Qa (Qc Z) Z (Qa (Q1 (i:=i) U8 Z Z (hxs.ext E).1 hi1) Z (Qa (Qz Gk Z) Z (Qa (Qj A0 Z ((ha1.ext E).one 7 Z)) Z (Qa (Qc Z) Z (Qv Tryz.call79 Z (heldDoneS o8 ((xs[i]'hi1).dones) (((((((q + 5 * ((xs[i]'hi1).queue).length) + 5 * ((xs[i]'hi1).staged).length) + 5 * ((xs[i]'hi1).inputs).length) + 4 * ((xs[i]'hi1).cells).length) + 1 * ((xs[i]'hi1).sums).length) + 1 * ((xs[i]'hi1).black).length) + 1 * ((xs[i]'hi1).caps).length) _ (hd8.rd.ext E) (congrArg Worker.dones hx) (by omega)) Z (fun _ w9 e8 hv=>?_)))))))))))))))))))
  subst hv
  replace E:=E.trans e8
  have z9:=e8.size
  refine Qa (Qe Z) Z (Qd (Qf (Qh [true,true] Z Z (Qa (Qc Z) Z (Qa (Yf Z Z) Z (Qd (Yy Z (by first | (simp;done) | (simp only [Qo] <;> simp) | (simp only [Qi,Qo] <;> simp) | (simp only [Qi] <;> simp)) (Qn (Q4 (Yr (Qh [true,true,true] Z Z (Qa (Qc Z) Z (Qa (Q8 Z Z (Ye (by unfold maxLen;omega))) Z (Qa (Qe Z) Z (Qd (Q4 (Yc (i + 1,(((((((q + 5 * ((xs[i]'hi1).queue).length) + 5 * ((xs[i]'hi1).staged).length) + 5 * ((xs[i]'hi1).inputs).length) + 4 * ((xs[i]'hi1).cells).length) + 1 * ((xs[i]'hi1).sums).length) + 1 * ((xs[i]'hi1).black).length) + 1 * ((xs[i]'hi1).caps).length) + 2 * ((xs[i]'hi1).dones).length) (by simp;omega) ⟨Z,Z,Z,Z,trivial⟩ ⟨E,(by omega),(by omega),(by rw [Gi (by omega),← hq];rfl)⟩)))))))))))))))))
 ·have hc1n : ¬ i < xs.length:=by first | (have h:=of_decide_eq_false hc1;omega) | (have h:=hc1;simp at h;omega)
  refine Yn (Q5 (Q3 ?_))
  refine Qf (Qh [true,true] Z Z (Qa (Qc Z) Z (Qa (Qe Z) Z (Qd (Qw (Ql Z Z E ?_))))))
  rw [hq,List.take_of_length_le (by omega)]

set_option maxRecDepth 20000 in
theorem heldLinkS (vxs : Value) (xs : List Link) (k : Nat) (w : World) (hxs : RdD w 0 w.heap.size vxs xs) (hm : xs = (X0 U7 U5) k xs) (hb : k + 5 * X1 Xl xs ≤ 1099511627776) : Ct Tryz.prog 38 [vxs,.int .i64 ((k : Nat) : Int)] w (fun v _=>v = .int .i64 ((Xv U7 k xs : Nat) : Int)):=by
 refine Yh Tryz.func38 Z Tryz.ntmps38 Z ?_
 refine Q7 [(0,vxs),(1,.int .i64 ((k : Nat) : Int))] ⟨Z,Z,trivial⟩ ?_
 have E : Ext w w:=Ext.refl w
 refine Qf (Qh [true] Z Z (Qa (Qe Z) Z (Qd (Qf (Qf (Qh [true] Z Z (Qa (Qe Z) Z (Qd (Q0 (Ym (fun (xq : Nat × Nat)=>let ⟨i,q⟩:=xq;[(0,vxs),(1,.int .i64 ((q : Nat) : Int)),(4,.int .i64 0),(5,.int .i64 ((i : Nat) : Int))]) (fun (xq : Nat × Nat) w'=>let ⟨i,q⟩:=xq;Ext w w' ∧ w.heap.size ≤ w'.heap.size ∧ i ≤ xs.length ∧ q = (Xv U7) k (xs.take i)) (fun (xq : Nat × Nat)=>let ⟨i,q⟩:=xq;xs.length - i) (0,k) ⟨Z,Z,Z,Z,trivial⟩ ⟨E,Nat.le_refl _,Nat.zero_le _,Z⟩ ?_))))))))))
 clear E
 rintro ⟨i,q⟩ w1 ⟨E,z1,hi,hq⟩
 refine Q7 [(0,vxs),(1,.int .i64 ((q : Nat) : Int)),(4,.int .i64 0),(5,.int .i64 ((i : Nat) : Int))] ⟨Z,Z,Z,Z,trivial⟩ ?_
 have hmx:=hxs.1.1
 unfold maxLen at hmx
 refine Qf (Qf (Qh [true,true,true,true] Z Z (Qa (Qc Z) Z (Qa (Qc Z) Z (Qa (Ya Tryz.underlying36 Z (hxs.ext E).len) Z (Qa (Yf Z Z) Z (Qd (Qs Z (fun hc1=>?_) (fun hc1=>?_)))))))))
 ·have hlt : i < xs.length:=by have h:=of_decide_eq_true hc1;omega
  have hqk:=Ck (k:=k) Al hlt;rw [← hq] at hqk;unfold U7 at hqk
  have hx:=Di hm hlt;rw [← hq] at hx
  have hc1n : i < xs.length:=by first | (have h:=of_decide_eq_true hc1;omega) | (have h:=hc1;simp at h;omega)
  refine Qn (Qf (Q0 (Qf (Qf (Qh [true,true,true,true,true,true,true] Z Z (Qa (Qc Z) Z (Qa (Qc Z) Z ?_)))))))
  have hi1 : i < xs.length:=(by first | assumption | omega | (simp only [List.length_set];first | assumption | omega))
  obtain ⟨_,hr1,ha1⟩:=RdD.get hxs hi1
  obtain ⟨o1,rfl,hd1⟩:=Link.op hr1
  replace ha1 : At w (Xf vxs) (Xm vxs + i * 6) [.int .i64 ((xs[i]'hi1).cap),o1,.int .i64 ((xs[i]'hi1).credits),.int .i64 ((xs[i]'hi1).back),.int .i64 ((xs[i]'hi1).sent),.int .i64 ((xs[i]'hi1).got)]:=ha1
  refine Qa (Q1 (i:=i) Gg Z Z (hxs.ext E).1 hi1) Z (Qa (Qz Uz Z) Z (Qa (Qj Yo Z ((ha1.ext E).one 0 Z)) Z (Qa (Qc Z) Z (Qa (Yu Z Z) Z (Qd (Yy Z (by rw [hx];simp [U5,Qi]) (Qn (Qf (Qh [true,true,true] Z Z (Qa (Qc Z) Z (Qa (Q8 Z Z (Ye (by unfold maxLen;omega))) Z (Qa (Qe Z) Z (Qd (Qf (Qh [true,true,true,true,true,true,false,true] Z Z (Qa (Qc Z) Z (Qa (Qc Z) Z (Qa (Q1 (i:=i) Gg Z Z (hxs.ext E).1 hi1) Z (Qa (Qz Kt Z) Z (Qa (Qj Xy Z ((ha1.ext E).one 1 Z)) Z (Qa (Qc Z) Z (Qv Tryz.call75 Z (heldRecordS o1 ((xs[i]'hi1).queue) (q + 1) _ (hd1.rd.ext E) (congrArg Link.queue hx) (by omega)) Z (fun _ w2 e1 hv=>?_)))))))))))))))))))))))
  subst hv
  replace E:=E.trans e1
  have z2:=e1.size
  refine Qa (Qe Z) Z (Qd (Qf (Qf (Qh [true,true] Z Z (Qa (Qc Z) Z (Qa (Yf Z Z) Z (Qd (Yy Z (by first | (simp;done) | (simp only [Qo] <;> simp) | (simp only [Qi,Qo] <;> simp) | (simp only [Qi] <;> simp)) (Qn (Qf (Qf (Qh [true,true,true,true,true,true,true] Z Z (Qa (Qc Z) Z (Qa (Qc Z) Z (Qa (Q1 (i:=i) Gg Z Z (hxs.ext E).1 hi1) Z (Qa (Qz Hd Z) Z (Qa (Qj Yo Z ((ha1.ext E).one 2 Z)) Z (Qa (Qc Z) Z (Qa (Yu Z Z) Z (Qd (Yy Z (by rw [hx];simp [U5,Qi]) (Qn (Qf (Qh [true,true,true] Z Z (Qa (Qc Z) Z (Qa (Q8 Z Z (Ye (by unfold maxLen;omega))) Z (Qa (Qe Z) Z (Qd (Qf (Qf (Qh [true,true,true,true,true,true,true] Z Z (Qa (Qc Z) Z (Qa (Qc Z) Z (Qa (Q1 (i:=i) Gg Z Z (hxs.ext E).1 hi1) Z (Qa (Qz Hc Z) Z (Qa (Qj Yo Z ((ha1.ext E).one 3 Z)) Z (Qa (Qc Z) Z (Qa (Yu Z Z) Z (Qd (Yy Z (by rw [hx];simp [U5,Qi]) (Qn (Qf (Qh [true,true,true] Z Z (Qa (Qc Z) Z (Qa (Q8 Z Z (Ye (by unfold maxLen;omega))) Z (Qa (Qe Z) Z (Qd (Qf (Qf (Qh [true,true,true,true,true,true,true] Z Z (Qa (Qc Z) Z (Qa (Qc Z) Z (Qa (Q1 (i:=i) Gg Z Z (hxs.ext E).1 hi1) Z (Qa (Qz Hb Z) Z (Qa (Qj Yo Z ((ha1.ext E).one 4 Z)) Z (Qa (Qc Z) Z (Qa (Yu Z Z) Z (Qd (Yy Z (by rw [hx];simp [U5,Qi]) (Qn (Qf (Qh [true,true,true] Z Z (Qa (Qc Z) Z (Qa (Q8 Z Z (Ye (by unfold maxLen;omega))) Z (Qa (Qe Z) Z (Qd (Qf (Qf (Qh [true,true,true,true,true,true,true] Z Z (Qa (Qc Z) Z (Qa (Qc Z) Z (Qa (Q1 (i:=i) Gg Z Z (hxs.ext E).1 hi1) Z (Qa (Qz Ha Z) Z (Qa (Qj Yo Z ((ha1.ext E).one 5 Z)) Z (Qa (Qc Z) Z (Qa (Yu Z Z) Z (Qd (Yy Z (by rw [hx];simp [U5,Qi]) (Qn (Qh [true,true,true] Z Z (Qa (Qc Z) Z (Qa (Q8 Z Z (Ye (by unfold maxLen;omega))) Z (Qa (Qe Z) Z (Qd (Q4 (Yr (Qh [true,true,true] Z Z (Qa (Qc Z) Z (Qa (Q8 Z Z (Ye (by unfold maxLen;omega))) Z (Qa (Qe Z) Z (Qd (Q4 (Yc (i + 1,(q + 1) + 5 * ((xs[i]'hi1).queue).length + 1 + 1 + 1 + 1) (by simp;omega) ⟨Z,Z,Z,Z,trivial⟩ ⟨E,(by omega),(by omega),(by rw [Gi (by omega),← hq];rfl)⟩)))))))))))))))))))))))))))))))))))))))))))))))))))))))))))))))))))))))))))))))))))))))))))))
 ·have hc1n : ¬ i < xs.length:=by first | (have h:=of_decide_eq_false hc1;omega) | (have h:=hc1;simp at h;omega)
  refine Yn (Q5 (Q3 ?_))
  refine Qf (Qh [true,true] Z Z (Qa (Qc Z) Z (Qa (Qe Z) Z (Qd (Qw (Ql Z Z E ?_))))))
  rw [hq,List.take_of_length_le (by omega)]

set_option maxRecDepth 20000 in
theorem heldGraph (cx : List Value) (x : Graph) (k : Nat) (w : World) (hx : Dat.R w 0 w.heap.size cx x) (hm : x.nodes = X0 Kc U4 k x.nodes) (hb : k + 4 * Xa x ≤ 1099511627776) : Ct Tryz.prog 36 [.agg cx.toArray,.int .i64 ((k : Nat) : Int)] w (fun v _=>v = .int .i64 ((Xv Kc k x.nodes : Nat) : Int)):=by
 refine Yh Tryz.func36 Z Tryz.ntmps36 Z ?_
 obtain ⟨o1,rfl,hd1⟩:=Graph.op hx
 refine Q7 [(0,.agg [o1,.int .i64 x.workers,.int .i64 x.cap].toArray),(1,.int .i64 ((k : Nat) : Int))] ⟨Z,Z,trivial⟩ ?_
 have E : Ext w w:=Ext.refl w
 refine Qf (Qh [false,true] Z Z (Y1 Z Z (fun b1 w1 e1 s1 h1=>?_)))
 have g_b1 : w.heap.size ≤ b1:=by have:=E.size;omega
 have y_b1:=h1.lt
 replace E:=E.trans e1
 have z1:=e1.size
 refine Qa (Qe Z) Z (Qd (Qf (Qh [true,true,true,false,true] Z Z (Qa (Qb Kd Z) Z (Qa (Qj Gc Z (h1.one 0 Z)) Z (Qa (Qc Z) Z (Qv Tryz.call74 Z (heldNodeS o1 x.nodes k _ (RdD.any (hd1.ext E)) hm (by unfold Xa at hb;omega)) Z (fun _ w2 e2 hv=>?_))))))))
 subst hv
 replace E:=E.trans e2;replace h1:=h1.ext e2
 have z2:=e2.size
 refine Qa (Qe Z) Z (Qd (Qf (Qf (Qh [true,true] Z Z (Qa (Qc Z) Z (Qa (Yf Z Z) Z (Qd (Yy Z (by first | (simp;done) | (simp only [Qo] <;> simp) | (simp only [Qi,Qo] <;> simp) | (simp only [Qi] <;> simp)) (Qn (Qf (Qh [true,true] Z Z (Qa (Qc Z) Z (Qa (Qe Z) Z (Qd (Qw (Ql Z Z E ?_))))))))))))))))
 rfl

set_option maxRecDepth 20000 in
theorem heldCluster (cx : List Value) (x : Cluster) (k : Nat) (w : World) (hx : Dat.R w 0 w.heap.size cx x) (hm : x = Uj k x) (hb : k + 5 * Yg x ≤ 1099511627776) : Ct Tryz.prog 10 [.agg cx.toArray,.int .i64 ((k : Nat) : Int)] w (fun v _=>v = .int .i64 ((Vb k x : Nat) : Int)):=by
 unfold Yg Xa at hb
 have b1:=@Hw _ _ _ 4 Ak k x.graph.nodes
 have b2:=@Hw _ _ _ 5 Bv (Xv Kc k x.graph.nodes) x.workers
 have b3:=@Hw _ _ _ 5 Al (Xv V6 (Xv Kc k x.graph.nodes) x.workers) x.links
 refine Yh Tryz.func10 Z Tryz.ntmps10 Z ?_
 obtain ⟨o1,o2,o3,o4,o5,rfl,hd1,hd2,hd3,hd4,hd5⟩:=Cluster.op hx
 refine Q7 [(0,.agg [o1,.int .i64 x.graph.workers,.int .i64 x.graph.cap,o2,o3,o4,o5].toArray),(1,.int .i64 ((k : Nat) : Int))] ⟨Z,Z,trivial⟩ ?_
 have E : Ext w w:=Ext.refl w
 refine Qf (Qh [false,true] Z Z (Y1 Z Z (fun b1 w1 e1 s1 h1=>?_)))
 have g_b1 : w.heap.size ≤ b1:=by have:=E.size;omega
 have y_b1:=h1.lt
 replace E:=E.trans e1
 have z1:=e1.size
 refine Qa (Qe Z) Z (Qd (Qf (Qh [true,true,true,false,true] Z Z (Qa (Qb Ur Z) Z (Qa (Qt Km Z (h1.part 0 [o1,.int .i64 x.graph.workers,.int .i64 x.graph.cap] Z) Z) Z (Qa (Qc Z) Z (Qv Tryz.call36 Z (heldGraph [o1,.int .i64 x.graph.workers,.int .i64 x.graph.cap] x.graph k _ (Graph.mkR x.graph (RdD.any (hd1.ext E))) (congrArg (fun c=>c.graph.nodes) hm) (by unfold Xa;omega)) Z (fun _ w2 e2 hv=>?_))))))))
 subst hv
 replace E:=E.trans e2;replace h1:=h1.ext e2
 have z2:=e2.size
 refine Qa (Qe Z) Z (Qd (Qf (Qf (Qh [true,true] Z Z (Qa (Qc Z) Z (Qa (Yf Z Z) Z (Qd (Yy Z (by first | (simp;done) | (simp only [Qo] <;> simp) | (simp only [Qi,Qo] <;> simp) | (simp only [Qi] <;> simp)) (Qn (Qf (Qh [true,true,true,false,true] Z Z (Qa (Qb Kh Z) Z (Qa (Qj Gh Z (h1.one 3 Z)) Z (Qa (Qc Z) Z (Qv Tryz.call37 Z (heldWorkerS o2 x.workers (Xv Kc k x.graph.nodes) _ (RdD.any (hd2.ext E)) (congrArg Cluster.workers hm) (by omega)) Z (fun _ w3 e3 hv=>?_))))))))))))))))
 subst hv
 replace E:=E.trans e3;replace h1:=h1.ext e3
 have z3:=e3.size
 refine Qa (Qe Z) Z (Qd (Qf (Qf (Qh [true,true] Z Z (Qa (Qc Z) Z (Qa (Yf Z Z) Z (Qd (Yy Z (by first | (simp;done) | (simp only [Qo] <;> simp) | (simp only [Qi,Qo] <;> simp) | (simp only [Qi] <;> simp)) (Qn (Qf (Qh [true,true,true,false,true] Z Z (Qa (Qb Uk Z) Z (Qa (Qj H2 Z (h1.one 4 Z)) Z (Qa (Qc Z) Z (Qv Tryz.call38 Z (heldLinkS o3 x.links (Xv V6 (Xv Kc k x.graph.nodes) x.workers) _ (RdD.any (hd3.ext E)) (congrArg Cluster.links hm) (by omega)) Z (fun _ w4 e4 hv=>?_))))))))))))))))
 subst hv
 replace E:=E.trans e4;replace h1:=h1.ext e4
 have z4:=e4.size
 refine Qa (Qe Z) Z (Qd (Qf (Qf (Qh [true,true] Z Z (Qa (Qc Z) Z (Qa (Yf Z Z) Z (Qd (Yy Z (by first | (simp;done) | (simp only [Qo] <;> simp) | (simp only [Qi,Qo] <;> simp) | (simp only [Qi] <;> simp)) (Qn (Qf (Qh [true,true,true,false,true] Z Z (Qa (Qb Vk Z) Z (Qa (Qj Cu Z (h1.one 5 Z)) Z (Qa (Qc Z) Z (Qv Tryz.call39 Z (heldTokenS o4 x.tokens (Xv U7 (Xv V6 (Xv Kc k x.graph.nodes) x.workers) x.links) _ (hd4.rd.ext E) (congrArg Cluster.tokens hm) (by omega)) Z (fun _ w5 e5 hv=>?_))))))))))))))))
 subst hv
 replace E:=E.trans e5;replace h1:=h1.ext e5
 have z5:=e5.size
 refine Qa (Qe Z) Z (Qd (Qf (Qf (Qh [true,true] Z Z (Qa (Qc Z) Z (Qa (Yf Z Z) Z (Qd (Yy Z (by first | (simp;done) | (simp only [Qo] <;> simp) | (simp only [Qi,Qo] <;> simp) | (simp only [Qi] <;> simp)) (Qn (Qf (Qh [true,true,true,false,true] Z Z (Qa (Qb Hn Z) Z (Qa (Qj B7 Z (h1.one 6 Z)) Z (Qa (Qc Z) Z (Qv Tryz.call40 Z (heldNewsS o5 x.news ((Xv U7 (Xv V6 (Xv Kc k x.graph.nodes) x.workers) x.links) + 5 * x.tokens.length) _ (hd5.rd.ext E) (congrArg Cluster.news hm) (by omega)) Z (fun _ w6 e6 hv=>?_))))))))))))))))
 subst hv
 replace E:=E.trans e6;replace h1:=h1.ext e6
 have z6:=e6.size
 refine Qa (Qe Z) Z (Qd (Qf (Qf (Qh [true,true] Z Z (Qa (Qc Z) Z (Qa (Yf Z Z) Z (Qd (Yy Z (by first | (simp;done) | (simp only [Qo] <;> simp) | (simp only [Qi,Qo] <;> simp) | (simp only [Qi] <;> simp)) (Qn (Qf (Qh [true,true] Z Z (Qa (Qc Z) Z (Qa (Qe Z) Z (Qd (Qw (Ql Z Z E ?_))))))))))))))))
 rfl

set_option maxRecDepth 20000 in
theorem c_copyLink (cx : List Value) (x : Link) (w : World) (hx : Dat.R w 0 w.heap.size cx x) (hb : Xl x ≤ 1048576) : Ct Tryz.prog 56 [.agg cx.toArray] w (fun v w'=>∃ cs,v = .agg cs.toArray ∧ Own1.O w' w.heap.size w'.heap.size cs x):=by
 unfold Xl at hb
 refine Yh Tryz.func56 Z Tryz.ntmps56 Z ?_
 obtain ⟨o1,rfl,hd1⟩:=Link.op hx
 refine Q7 [(0,.agg [.int .i64 x.cap,o1,.int .i64 x.credits,.int .i64 x.back,.int .i64 x.sent,.int .i64 x.got].toArray)] ⟨Z,trivial⟩ ?_
 have E : Ext w w:=Ext.refl w
 refine Qf (Qh [false,false] Z Z (Y1 Z Z (fun b1 w1 e1 s1 h1=>?_)))
 have g_b1 : w.heap.size ≤ b1:=by have:=E.size;omega
 have y_b1:=h1.lt
 replace E:=E.trans e1
 have z1:=e1.size
 refine Yk Ua Z (fun b2 w2 e2 s2 h2=>?_)
 have g_b2 : w.heap.size ≤ b2:=by have:=E.size;omega
 have y_b2:=h2.lt
 replace E:=E.trans e2;replace h1:=h1.ext e2
 have z2:=e2.size
 refine Qd (Qf (Qh [true,true,false,true,false] Z Z (Qa (Qb Kt Z) Z (Qa (Qj Xy Z (h1.one 1 Z)) Z (Qv Tryz.call107 Z (c_copyRecords o1 x.queue _ (hd1.rd.ext E) (by first | omega | (simp only [Qi];omega) | (rw [Qi];done) | (simp only [Qi];done))) Z (fun v1 w3 e3 ho1=>?_))))))
 have g_ho1 : w.heap.size ≤ w2.heap.size:=E.size
 replace E:=E.trans e3;replace h1:=h1.ext e3;replace h2:=h2.ext e3
 have z3:=e3.size
 refine Qa (Qb Kt Z) Z (Yj (cs':=[.int .i64 x.cap,v1,.int .i64 x.credits,.int .i64 x.back,.int .i64 x.sent,.int .i64 x.got]) Xy Z Z ho1.one h1 (Nat.le_of_ble_eq_true Z) Z (fun w4 m1 h1'=>?_))
 replace h1:=h1'
 replace E:=E.step m1 (fun g hg=>by cases hg;omega);replace h2:=h2.mod m1 (fun g hg=>by cases hg;omega);replace ho1:=ho1.mod m1 (fun g hg=>by cases hg;omega)
 have z4:=m1.size
 refine Qd (Qf (Qh [true,false] Z Z (Qa (Qt Ua Z h1.at Z) Z (Q6 (cs':=[.int .i64 x.cap,v1,.int .i64 x.credits,.int .i64 x.back,.int .i64 x.sent,.int .i64 x.got]) Ua Z Z Z (Qk Z (Qk ho1.one (Qk Z (Qk Z (Qk Z (Qk Z Z)))))) h2 (Nat.le_of_ble_eq_true Z) Z (fun w5 m2 h2'=>?_)))))
 replace h2:=h2'
 replace E:=E.step m2 (fun g hg=>by cases hg;omega);replace h1:=h1.mod m2 (fun g hg=>by cases hg;omega);replace ho1:=ho1.mod m2 (fun g hg=>by cases hg;omega)
 have z5:=m2.size
 refine Qd (Qw (Kk Z Z (Yi Ua h2.at Z) E ?_))
 exact ⟨_,Z,Link.mkO x ⟨trivial,trivial⟩ (Own.widen ho1 (by omega) (by omega))⟩

set_option maxRecDepth 20000 in
theorem s_l06Copy (cx : List Value) (x : Link) (w : World) (hx : Dat.R w 0 w.heap.size cx x) (hb : Xl x ≤ 1048576) : Ct Tryz.prog 88 [.agg cx.toArray] w (fun v w'=>∃ cs,v = .agg cs.toArray ∧ Own1.O w' w.heap.size w'.heap.size cs x):=by
 unfold Xl at hb
 refine Yh Tryz.func88 Z Tryz.ntmps88 Z ?_
 obtain ⟨o1,rfl,hd1⟩:=Link.op hx
 refine Q7 [(0,.agg [.int .i64 x.cap,o1,.int .i64 x.credits,.int .i64 x.back,.int .i64 x.sent,.int .i64 x.got].toArray)] ⟨Z,trivial⟩ ?_
 have E : Ext w w:=Ext.refl w
 refine Qf (Qh [false,false] Z Z (Y1 Z Z (fun b1 w1 e1 s1 h1=>?_)))
 have g_b1 : w.heap.size ≤ b1:=by have:=E.size;omega
 have y_b1:=h1.lt
 replace E:=E.trans e1
 have z1:=e1.size
 refine Yk Ua Z (fun b2 w2 e2 s2 h2=>?_)
 have g_b2 : w.heap.size ≤ b2:=by have:=E.size;omega
 have y_b2:=h2.lt
 replace E:=E.trans e2;replace h1:=h1.ext e2
 have z2:=e2.size
 refine Qd (Qf (Qh [false,true,true,false,true,false] Z Z (Yz (vs:=[]) (css:=[]) Kn Z Z trivial Z Z (fun b3 w3 e3 s3 h3=>?_))))
 replace h3 : Blk w3 b3 []:=h3
 have g_b3 : w.heap.size ≤ b3:=by have:=E.size;omega
 have y_b3:=h3.lt
 replace E:=E.trans e3;replace h1:=h1.ext e3;replace h2:=h2.ext e3
 have z3:=e3.size
 refine Qa (Qb Kt Z) Z (Qa (Qj Xy Z (h1.one 1 Z)) Z (K8 Kn Z Z (Own.ofBlk (lo:=b3) (hi:=b3 + 1) (sz:=5) h3 (Nat.le_refl _) (Nat.lt_succ_self _) (by simp) (by simp [maxLen])) (RdS.src (hd1.rd.ext E)) (Xe _) (by simp only [List.length_append,Yb,List.length_nil,List.length_cons,List.length_drop];simp only [Enc.sz];omega) (by decide) (by omega) (by omega) Z Z (fun v1 w4 m1 ho1=>?_)))
 replace E:=E.step m1 (fun g hg=>by have:=Own.blk (Own.ofBlk (lo:=b3) (hi:=b3 + 1) (sz:=5) h3 (Nat.le_refl _) (Nat.lt_succ_self _) (by simp) (by simp [maxLen])) g hg;omega);replace h1:=h1.mod m1 (fun g hg=>by have:=Own.blk (Own.ofBlk (lo:=b3) (hi:=b3 + 1) (sz:=5) h3 (Nat.le_refl _) (Nat.lt_succ_self _) (by simp) (by simp [maxLen])) g hg;omega);replace h2:=h2.mod m1 (fun g hg=>by have:=Own.blk (Own.ofBlk (lo:=b3) (hi:=b3 + 1) (sz:=5) h3 (Nat.le_refl _) (Nat.lt_succ_self _) (by simp) (by simp [maxLen])) g hg;omega)
 have z4:=m1.size
 refine Qa (Qb Kt Z) Z (Yj (cs':=[.int .i64 x.cap,v1,.int .i64 x.credits,.int .i64 x.back,.int .i64 x.sent,.int .i64 x.got]) Xy Z Z ho1.one h1 (Nat.le_of_ble_eq_true Z) Z (fun w5 m2 h1'=>?_))
 replace h1:=h1'
 replace E:=E.step m2 (fun g hg=>by cases hg;omega);replace h2:=h2.mod m2 (fun g hg=>by cases hg;omega);replace ho1:=ho1.mod m2 (fun g hg=>by cases hg;omega)
 have z5:=m2.size
 refine Qd (Qf (Qh [true,false] Z Z (Qa (Qt Ua Z h1.at Z) Z (Q6 (cs':=[.int .i64 x.cap,v1,.int .i64 x.credits,.int .i64 x.back,.int .i64 x.sent,.int .i64 x.got]) Ua Z Z Z (Qk Z (Qk ho1.one (Qk Z (Qk Z (Qk Z (Qk Z Z)))))) h2 (Nat.le_of_ble_eq_true Z) Z (fun w6 m3 h2'=>?_)))))
 replace h2:=h2'
 replace E:=E.step m3 (fun g hg=>by cases hg;omega);replace h1:=h1.mod m3 (fun g hg=>by cases hg;omega);replace ho1:=ho1.mod m3 (fun g hg=>by cases hg;omega)
 have z6:=m3.size
 refine Qd (Qw (Kk Z Z (Yi Ua h2.at Z) E ?_))
 exact ⟨_,Z,Link.mkO (⟨x.cap,[] ++ x.queue,x.credits,x.back,x.sent,x.got⟩ : Link) ⟨trivial,trivial⟩ (Own.widen ho1 (by omega) (by omega))⟩

set_option maxRecDepth 20000 in
theorem c_copyGraph (cx : List Value) (x : Graph) (w : World) (hx : Dat.R w 0 w.heap.size cx x) (hb : Xa x ≤ 1048576) : Ct Tryz.prog 54 [.agg cx.toArray] w (fun v w'=>∃ o,v = .agg [o,.int .i64 x.workers,.int .i64 x.cap].toArray ∧ OwS w' w.heap.size w'.heap.size o x.nodes):=by
 have hb2:=hb
 unfold Xa X1 at hb2
 refine Yh Tryz.func54 Z Tryz.ntmps54 Z ?_
 obtain ⟨o1,rfl,hd1⟩:=Graph.op hx
 refine Q7 [(0,.agg [o1,.int .i64 x.workers,.int .i64 x.cap].toArray)] ⟨Z,trivial⟩ ?_
 have E : Ext w w:=Ext.refl w
 refine Qf (Qh [false,false] Z Z (Y1 Z Z (fun b1 w1 e1 s1 h1=>?_)))
 have g_b1 : w.heap.size ≤ b1:=by have:=E.size;omega
 have y_b1:=h1.lt
 replace E:=E.trans e1
 have z1:=e1.size
 refine Yk Km Z (fun b2 w2 e2 s2 h2=>?_)
 have g_b2 : w.heap.size ≤ b2:=by have:=E.size;omega
 have y_b2:=h2.lt
 replace E:=E.trans e2;replace h1:=h1.ext e2
 have z2:=e2.size
 refine Qd (Qf (Qh [true,true,true,true,true,false,false] Z Z (Qa (Qb Cg Z) Z (Qa (Qj Yo Z (h1.one 1 Z)) Z (Qa (Qb Cf Z) Z (Qa (Qj Yo Z (h1.one 2 Z)) Z ?_))))))
 have hbl1 : ∀ w,(Instr.build 34 ([(1,.int .i64 x.workers),(2,.int .i64 x.cap)]).toArray).run Tryz.prog w = .ok (.agg [.slice none 0 0,.int .i64 x.workers,.int .i64 x.cap].toArray) w:=by clear E;intro w;kernel_rfl
 refine Qa (Gz [.slice none 0 0,.int .i64 x.workers,.int .i64 x.cap] Z hbl1) Z (Yk Km Z (fun b3 w3 e3 s3 h3=>?_))
 have g_b3 : w.heap.size ≤ b3:=by have:=E.size;omega
 have y_b3:=h3.lt
 replace E:=E.trans e3;replace h1:=h1.ext e3;replace h2:=h2.ext e3
 have z3:=e3.size
 refine Q6 (cs':=[.slice none 0 0,.int .i64 x.workers,.int .i64 x.cap]) Km Z Z Z Z h3 (Nat.le_of_ble_eq_true Z) Z (fun w4 m1 h3'=>?_)
 replace h3:=h3'
 replace E:=E.step m1 (fun g hg=>by cases hg;omega);replace h1:=h1.mod m1 (fun g hg=>by cases hg;omega);replace h2:=h2.mod m1 (fun g hg=>by cases hg;omega)
 have z4:=m1.size
 refine Qd (Qf (Qf (Qh [true,true,true,true] Z Z (Qa (Qb Kd Z) Z (Qa (Qj Gc Z (h1.one 0 Z)) Z (Qa (Ya Tryz.underlying32 Z (hd1.ext E).len) Z (Qa (Qc Z) Z (Qd (Q0 (Ym (fun (xq : Nat × Value)=>let ⟨k0,vo0⟩:=xq;[(2,.pointer (some ⟨b2,0,none⟩)),(3,.pointer (some ⟨b3,0,none⟩)),(12,o1),(13,.int .i64 ((x.nodes.length : Nat) : Int)),(14,.int .i64 ((k0 : Nat) : Int))]) (fun (xq : Nat × Value) w'=>let ⟨k0,vo0⟩:=xq;Ext w w' ∧ w4.heap.size ≤ w'.heap.size ∧ Blk w' b1 ([o1,.int .i64 x.workers,.int .i64 x.cap]) ∧ Blk w' b2 [.slice none 0 0,.int .i64 0,.int .i64 0] ∧ k0 ≤ x.nodes.length ∧ OwS w' w4.heap.size w'.heap.size vo0 (x.nodes.take k0) ∧ Blk w' b3 [vo0,.int .i64 x.workers,.int .i64 x.cap]) (fun (xq : Nat × Value)=>let ⟨k0,vo0⟩:=xq;x.nodes.length - k0) (0,.slice none 0 0) ⟨Z,Z,Z,Z,Z,trivial⟩ ⟨E,Nat.le_refl _,h1,h2,Nat.zero_le _,(OwS.nil _ _ _),h3⟩ ?_))))))))))
 clear E h1 h2 h3
 rintro ⟨k0,vo0⟩ w5 ⟨E,z5,h1,h2,hk0,hoC0,h3⟩
 refine Q7 [(2,.pointer (some ⟨b2,0,none⟩)),(3,.pointer (some ⟨b3,0,none⟩)),(12,o1),(13,.int .i64 ((x.nodes.length : Nat) : Int)),(14,.int .i64 ((k0 : Nat) : Int))] ⟨Z,Z,Z,Z,Z,trivial⟩ ?_
 refine Qf (Qh [true] Z Z (Qa (Yf Z Z) Z (Qd (Qf (Qs Z (fun hc1=>?_) (fun hc1=>?_))))))
 ·have hc1n : k0 < x.nodes.length:=by first | (have h:=of_decide_eq_true hc1;omega) | (have h:=hc1;simp at h;omega)
  refine Qn (Qf (Q0 (Qf (Qh [true,true,false,false] Z Z ?_))))
  have hi1 : k0 < x.nodes.length:=(by first | assumption | omega | (simp only [List.length_set];first | assumption | omega))
  obtain ⟨_,hr1,ha1⟩:=RdD.get hd1 hi1
  obtain ⟨o2,rfl,hd2⟩:=Node.op hr1
  replace ha1 : At w (Xf o1) (Xm o1 + k0 * 4) [.int .i64 ((x.nodes[k0]'hi1).kind),.int .i64 ((x.nodes[k0]'hi1).a),.int .i64 ((x.nodes[k0]'hi1).b),o2]:=ha1
  refine Qa (Q1 (i:=k0) Gv Z Z (hd1.ext E).1 hi1) Z (Qa (Qt Xo Z (ha1.ext E) Z) Z (Yk Xo Z (fun b4 w6 e4 s4 h4=>?_)))
  have g_b4 : w.heap.size ≤ b4:=by have:=E.size;omega
  have y_b4:=h4.lt
  replace E:=E.trans e4;replace h1:=h1.ext e4;replace h2:=h2.ext e4;replace hoC0:=hoC0.ext e4;replace h3:=h3.ext e4
  have z6:=e4.size
  refine Q6 (cs':=[.int .i64 ((x.nodes[k0]'hi1).kind),.int .i64 ((x.nodes[k0]'hi1).a),.int .i64 ((x.nodes[k0]'hi1).b),o2]) Xo Z Z Z (Qk Z (Qk Z (Qk Z (Qk (RdD.one (hd2.ext E)) Z)))) h4 (Nat.le_of_ble_eq_true Z) Z (fun w7 m2 h4'=>?_)
  replace h4:=h4'
  replace E:=E.step m2 (fun g hg=>by cases hg;omega);replace h1:=h1.mod m2 (fun g hg=>by cases hg;omega);replace h2:=h2.mod m2 (fun g hg=>by cases hg;omega);replace hoC0:=hoC0.mod m2 (fun g hg=>by cases hg;omega);replace h3:=h3.mod m2 (fun g hg=>by cases hg;omega)
  have z7:=m2.size
  refine Qd (Hp Xi [5] [(0,true),(1,true),(2,true),(3,false),(4,false)] [(5,false),(6,true),(7,false)] (by decide +kernel) Z Z (fun w8 e5=>?_))
  replace E:=E.trans e5;replace h1:=h1.ext e5;replace h2:=h2.ext e5;replace hoC0:=hoC0.ext e5;replace h3:=h3.ext e5;replace h4:=h4.ext e5
  have z8:=e5.size
  refine Qa (Qb Kd Z) Z (Qa (Qj Gc Z (h3.one 0 Z)) Z (Qa (Qt Xo Z h4.at Z) Z (Qv Tryz.call106 Z (c_copyNode [.int .i64 ((x.nodes[k0]'hi1).kind),.int .i64 ((x.nodes[k0]'hi1).a),.int .i64 ((x.nodes[k0]'hi1).b),o2] (x.nodes[k0]'hi1) _ (Node.mkR (x.nodes[k0]'hi1) (RdD.any (hd2.ext E))) (outs_le hb (List.getElem_mem _))) Z (fun _ w9 e6 ho1=>?_))))
  obtain ⟨_,rfl,ho1⟩:=ho1
  have g_ho1 : w.heap.size ≤ w8.heap.size:=E.size
  replace E:=E.trans e6;replace h1:=h1.ext e6;replace h2:=h2.ext e6;replace hoC0:=hoC0.ext e6;replace h3:=h3.ext e6;replace h4:=h4.ext e6
  have z9:=e6.size
  obtain ⟨o3,rfl,sp1,hw1⟩:=Node.opO ho1
  refine Yz (vs:=[.agg [.int .i64 ((x.nodes[k0]'hi1).kind),.int .i64 ((x.nodes[k0]'hi1).a),.int .i64 ((x.nodes[k0]'hi1).b),o3].toArray]) (css:=[[.int .i64 ((x.nodes[k0]'hi1).kind),.int .i64 ((x.nodes[k0]'hi1).a),.int .i64 ((x.nodes[k0]'hi1).b),o3]]) Gv Z Z ⟨⟨Z,Z⟩,trivial⟩ Z Z (fun b5 w10 e7 s5 h5=>?_)
  replace h5 : Blk w10 b5 [.int .i64 ((x.nodes[k0]'hi1).kind),.int .i64 ((x.nodes[k0]'hi1).a),.int .i64 ((x.nodes[k0]'hi1).b),o3]:=h5
  have g_b5 : w.heap.size ≤ b5:=by have:=E.size;omega
  have y_b5:=h5.lt
  replace E:=E.trans e7;replace h1:=h1.ext e7;replace h2:=h2.ext e7;replace hoC0:=hoC0.ext e7;replace h3:=h3.ext e7;replace h4:=h4.ext e7;replace hw1:=hw1.ext e7
  have z10:=e7.size
  refine Gb ?_
  refine Bt Z ?_
  refine V1 (lo:=w4.heap.size) (hi:=w5.heap.size) (lo2:=w8.heap.size) (hi2:=w10.heap.size) Gv Z Z hoC0 (Src.ofBlk h5 Z) (Node.mkO (x.nodes[k0]'hi1) sp1 (Own.widen hw1 (by omega) (by omega))) (by omega) (by simp only [List.length_take,show Dat.sz Node = 4 from Z];omega) (by decide) (by omega) (by omega) (by omega) (by omega) (by omega) Z Z (fun v1 w11 m3 ho2=>?_)
  have hqb:=OwS.inn hoC0
  replace E:=E.step m3 (fun g hg=>by have:=hqb g hg;omega);replace h1:=h1.mod m3 (fun g hg=>by have:=hqb g hg;omega);replace h2:=h2.mod m3 (fun g hg=>by have:=hqb g hg;omega);replace h3:=h3.mod m3 (fun g hg=>by have:=hqb g hg;omega);replace h4:=h4.mod m3 (fun g hg=>by have:=hqb g hg;omega)
  have z11:=m3.size
  clear hqb
  refine T3 ?_
  refine Qa (Qb Kd Z) Z (Yj (cs':=[v1,.int .i64 x.workers,.int .i64 x.cap]) Gc Z Z (RdD.one (OwS.rd ho2)) h3 (Nat.le_of_ble_eq_true Z) Z (fun w12 m4 h3'=>?_))
  replace h3:=h3'
  replace E:=E.step m4 (fun g hg=>by cases hg;omega);replace h1:=h1.mod m4 (fun g hg=>by cases hg;omega);replace h2:=h2.mod m4 (fun g hg=>by cases hg;omega);replace h4:=h4.mod m4 (fun g hg=>by cases hg;omega);replace ho2:=ho2.mod m4 (fun g hg=>by cases hg;omega)
  have z12:=m4.size
  refine Qd (Q4 (Yr (Qh [true,true] Z Z (Qa (Q8 Z Z (Yt hc1n (hd1.ext E).1.1)) Z (Qa (Qc Z) Z (Qd (Q4 (Yc (k0 + 1,v1) (by simp;omega) ⟨Z,Z,Z,Z,Z,trivial⟩ ⟨E,(by omega),h1,h2,(by omega),(by rw [List.take_succ_eq_append_getElem (by assumption)];exact OwS.widen ho2 (by omega) (by omega)),h3⟩))))))))
 ·have hc1n : ¬ k0 < x.nodes.length:=by first | (have h:=of_decide_eq_false hc1;omega) | (have h:=hc1;simp at h;omega)
  refine Yn (Q5 (Q3 ?_))
  refine Qf (Qh [true,false] Z Z (Qa (Qt Km Z h3.at Z) Z (Q6 (cs':=[vo0,.int .i64 x.workers,.int .i64 x.cap]) Km Z Z Z (Qk (RdD.one (OwS.rd hoC0)) (Qk Z (Qk Z Z))) h2 (Nat.le_of_ble_eq_true Z) Z (fun w13 m5 h2'=>?_))))
  replace h2:=h2'
  replace E:=E.step m5 (fun g hg=>by cases hg;omega);replace h1:=h1.mod m5 (fun g hg=>by cases hg;omega);replace hoC0:=hoC0.mod m5 (fun g hg=>by cases hg;omega);replace h3:=h3.mod m5 (fun g hg=>by cases hg;omega)
  have z13:=m5.size
  refine Qd (Qw (Kk Z Z (Yi Km h2.at Z) E ?_))
  rw [List.take_of_length_le (by omega)] at hoC0
  exact ⟨_,Z,OwS.widen hoC0 (by have:=E.size;omega) (by omega)⟩

set_option maxHeartbeats 4000000 in
set_option maxRecDepth 20000 in
theorem s_l08Copy (cx : List Value) (x : Graph) (w : World) (hx : Dat.R w 0 w.heap.size cx x) (hb : Xa x ≤ 1048576) : Ct Tryz.prog 86 [.agg cx.toArray] w (fun v w'=>∃ o,v = .agg [o,.int .i64 x.workers,.int .i64 x.cap].toArray ∧ OwS w' w.heap.size w'.heap.size o x.nodes):=by
 have hb2:=hb
 unfold Xa X1 at hb2
 refine Yh Tryz.func86 Z Tryz.ntmps86 Z ?_
 obtain ⟨o1,rfl,hd1⟩:=Graph.op hx
 refine Q7 [(0,.agg [o1,.int .i64 x.workers,.int .i64 x.cap].toArray)] ⟨Z,trivial⟩ ?_
 have E : Ext w w:=Ext.refl w
 refine Qf (Qh [false,false] Z Z (Y1 Z Z (fun b1 w1 e1 s1 h1=>?_)))
 have g_b1 : w.heap.size ≤ b1:=by have:=E.size;omega
 have y_b1:=h1.lt
 replace E:=E.trans e1
 have z1:=e1.size
 refine Yk Km Z (fun b2 w2 e2 s2 h2=>?_)
 have g_b2 : w.heap.size ≤ b2:=by have:=E.size;omega
 have y_b2:=h2.lt
 replace E:=E.trans e2;replace h1:=h1.ext e2
 have z2:=e2.size
 refine Qd (Qf (Qh [true,false,false] Z Z (Qa (Qt Km Z h1.at Z) Z (Yk Km Z (fun b3 w3 e3 s3 h3=>?_)))))
 have g_b3 : w.heap.size ≤ b3:=by have:=E.size;omega
 have y_b3:=h3.lt
 replace E:=E.trans e3;replace h1:=h1.ext e3;replace h2:=h2.ext e3
 have z3:=e3.size
 refine Q6 (cs':=[o1,.int .i64 x.workers,.int .i64 x.cap]) Km Z Z Z (Qk (RdD.one (hd1.ext E)) (Qk Z (Qk Z Z))) h3 (Nat.le_of_ble_eq_true Z) Z (fun w4 m1 h3'=>?_)
 replace h3:=h3'
 replace E:=E.step m1 (fun g hg=>by cases hg;omega);replace h1:=h1.mod m1 (fun g hg=>by cases hg;omega);replace h2:=h2.mod m1 (fun g hg=>by cases hg;omega)
 have z4:=m1.size
 refine Qd (Qf (Qh [false,true,false] Z Z (Yz (vs:=[]) (css:=[]) Gv Z Z trivial Z Z (fun b4 w5 e4 s4 h4=>?_))))
 replace h4 : Blk w5 b4 []:=h4
 have g_b4 : w.heap.size ≤ b4:=by have:=E.size;omega
 have y_b4:=h4.lt
 replace E:=E.trans e4;replace h1:=h1.ext e4;replace h2:=h2.ext e4;replace h3:=h3.ext e4
 have z5:=e4.size
 refine Qa (Qb Kd Z) Z (Yj (cs':=[.slice (some ⟨b4,0,none⟩) 0 0,.int .i64 x.workers,.int .i64 x.cap]) Gc Z Z Z h3 (Nat.le_of_ble_eq_true Z) Z (fun w6 m2 h3'=>?_))
 replace h3:=h3'
 replace E:=E.step m2 (fun g hg=>by cases hg;omega);replace h1:=h1.mod m2 (fun g hg=>by cases hg;omega);replace h2:=h2.mod m2 (fun g hg=>by cases hg;omega);replace h4:=h4.mod m2 (fun g hg=>by cases hg;omega)
 have z6:=m2.size
 refine Qd (Qf (Qf (Qh [true] Z Z (Qa (Qe Z) Z (Qd (Q0 (Ym (fun (xq : Nat × Value)=>let ⟨k0,vo0⟩:=xq;[(1,.pointer (some ⟨b1,0,none⟩)),(2,.pointer (some ⟨b2,0,none⟩)),(3,.pointer (some ⟨b3,0,none⟩)),(4,.int .i64 ((k0 : Nat) : Int)),(8,.pointer (some ⟨b3,0,none⟩))]) (fun (xq : Nat × Value) w'=>let ⟨k0,vo0⟩:=xq;Ext w w' ∧ w6.heap.size ≤ w'.heap.size ∧ Blk w' b1 ([o1,.int .i64 x.workers,.int .i64 x.cap]) ∧ Blk w' b2 [.slice none 0 0,.int .i64 0,.int .i64 0] ∧ k0 ≤ x.nodes.length ∧ OwS w' b4 w'.heap.size vo0 (x.nodes.take k0) ∧ Blk w' b3 [vo0,.int .i64 x.workers,.int .i64 x.cap]) (fun (xq : Nat × Value)=>let ⟨k0,vo0⟩:=xq;x.nodes.length - k0) (0,.slice (some ⟨b4,0,none⟩) 0 0) ⟨Z,Z,Z,Z,Z,trivial⟩ ⟨E,Nat.le_refl _,h1,h2,Nat.zero_le _,(OwS.lit h4 (by omega)),h3⟩ ?_)))))))
 clear E h1 h2 h3 h4
 rintro ⟨k0,vo0⟩ w7 ⟨E,z7,h1,h2,hk0,hoC0,h3⟩
 refine Q7 [(1,.pointer (some ⟨b1,0,none⟩)),(2,.pointer (some ⟨b2,0,none⟩)),(3,.pointer (some ⟨b3,0,none⟩)),(4,.int .i64 ((k0 : Nat) : Int)),(8,.pointer (some ⟨b3,0,none⟩))] ⟨Z,Z,Z,Z,Z,trivial⟩ ?_
 refine Qf (Qf (Qh [true,true,true,true,true] Z Z (Qa (Qc Z) Z (Qa (Qb Kd Z) Z (Qa (Qj Gc Z (h1.one 0 Z)) Z (Qa (Ya Tryz.underlying32 Z (hd1.ext E).len) Z (Qa (Yf Z Z) Z (Qd (Qs Z (fun hc1=>?_) (fun hc1=>?_))))))))))
 ·have hc1n : k0 < x.nodes.length:=by first | (have h:=of_decide_eq_true hc1;omega) | (have h:=hc1;simp at h;omega)
  refine Qn (Qf (Q0 (Qf (Qh [true,true,true,true,true,false,false] Z Z (Qa (Qb Kd Z) Z (Qa (Qj Gc Z (h1.one 0 Z)) Z (Qa (Qc Z) Z ?_)))))))
  have hi1 : k0 < x.nodes.length:=(by first | assumption | omega | (simp only [List.length_set];first | assumption | omega))
  obtain ⟨_,hr1,ha1⟩:=RdD.get hd1 hi1
  obtain ⟨o2,rfl,hd2⟩:=Node.op hr1
  replace ha1 : At w (Xf o1) (Xm o1 + k0 * 4) [.int .i64 ((x.nodes[k0]'hi1).kind),.int .i64 ((x.nodes[k0]'hi1).a),.int .i64 ((x.nodes[k0]'hi1).b),o2]:=ha1
  refine Qa (Q1 (i:=k0) Gv Z Z (hd1.ext E).1 hi1) Z (Qa (Qt Xo Z (ha1.ext E) Z) Z (Yk Xo Z (fun b5 w8 e5 s5 h5=>?_)))
  have g_b5 : w.heap.size ≤ b5:=by have:=E.size;omega
  have y_b5:=h5.lt
  replace E:=E.trans e5;replace h1:=h1.ext e5;replace h2:=h2.ext e5;replace hoC0:=hoC0.ext e5;replace h3:=h3.ext e5
  have z8:=e5.size
  refine Q6 (cs':=[.int .i64 ((x.nodes[k0]'hi1).kind),.int .i64 ((x.nodes[k0]'hi1).a),.int .i64 ((x.nodes[k0]'hi1).b),o2]) Xo Z Z Z (Qk Z (Qk Z (Qk Z (Qk (RdD.one (hd2.ext E)) Z)))) h5 (Nat.le_of_ble_eq_true Z) Z (fun w9 m3 h5'=>?_)
  replace h5:=h5'
  replace E:=E.step m3 (fun g hg=>by cases hg;omega);replace h1:=h1.mod m3 (fun g hg=>by cases hg;omega);replace h2:=h2.mod m3 (fun g hg=>by cases hg;omega);replace hoC0:=hoC0.mod m3 (fun g hg=>by cases hg;omega);replace h3:=h3.mod m3 (fun g hg=>by cases hg;omega)
  have z9:=m3.size
  refine Qd (Qf (Qh [false,true,true,false,true,false] Z Z (Yz (vs:=[]) (css:=[]) Uv Z Z trivial Z Z (fun b6 w10 e6 s6 h6=>?_))))
  replace h6 : Blk w10 b6 []:=h6
  have g_b6 : w.heap.size ≤ b6:=by have:=E.size;omega
  have y_b6:=h6.lt
  replace E:=E.trans e6;replace h1:=h1.ext e6;replace h2:=h2.ext e6;replace hoC0:=hoC0.ext e6;replace h3:=h3.ext e6;replace h5:=h5.ext e6
  have z10:=e6.size
  refine Qa (Qb Y8 Z) Z (Qa (Qj Ke Z (h5.one 3 Z)) Z (K8 Uv Z Z (Own.ofBlk (lo:=b6) (hi:=b6 + 1) (sz:=1) h6 (Nat.le_refl _) (Nat.lt_succ_self _) (by simp) (by simp [maxLen])) (RdS.src (hd2.rd.ext E)) (Xe _) (by have h9:=outs_le hb (List.getElem_mem (by assumption));simp only [Yb,List.length_nil];simp only [Enc.sz];omega) (by decide) (by omega) (by omega) Z Z (fun v1 w11 m4 ho1=>?_)))
  replace E:=E.step m4 (fun g hg=>by have:=Own.blk (Own.ofBlk (lo:=b6) (hi:=b6 + 1) (sz:=1) h6 (Nat.le_refl _) (Nat.lt_succ_self _) (by simp) (by simp [maxLen])) g hg;omega);replace h1:=h1.mod m4 (fun g hg=>by have:=Own.blk (Own.ofBlk (lo:=b6) (hi:=b6 + 1) (sz:=1) h6 (Nat.le_refl _) (Nat.lt_succ_self _) (by simp) (by simp [maxLen])) g hg;omega);replace h2:=h2.mod m4 (fun g hg=>by have:=Own.blk (Own.ofBlk (lo:=b6) (hi:=b6 + 1) (sz:=1) h6 (Nat.le_refl _) (Nat.lt_succ_self _) (by simp) (by simp [maxLen])) g hg;omega);replace hoC0:=hoC0.mod m4 (fun g hg=>by have:=Own.blk (Own.ofBlk (lo:=b6) (hi:=b6 + 1) (sz:=1) h6 (Nat.le_refl _) (Nat.lt_succ_self _) (by simp) (by simp [maxLen])) g hg;omega);replace h3:=h3.mod m4 (fun g hg=>by have:=Own.blk (Own.ofBlk (lo:=b6) (hi:=b6 + 1) (sz:=1) h6 (Nat.le_refl _) (Nat.lt_succ_self _) (by simp) (by simp [maxLen])) g hg;omega);replace h5:=h5.mod m4 (fun g hg=>by have:=Own.blk (Own.ofBlk (lo:=b6) (hi:=b6 + 1) (sz:=1) h6 (Nat.le_refl _) (Nat.lt_succ_self _) (by simp) (by simp [maxLen])) g hg;omega)
  have z11:=m4.size
  refine Qa (Qb Y8 Z) Z (Yj (cs':=[.int .i64 ((x.nodes[k0]'hi1).kind),.int .i64 ((x.nodes[k0]'hi1).a),.int .i64 ((x.nodes[k0]'hi1).b),v1]) Ke Z Z ho1.one h5 (Nat.le_of_ble_eq_true Z) Z (fun w12 m5 h5'=>?_))
  replace h5:=h5'
  replace E:=E.step m5 (fun g hg=>by cases hg;omega);replace h1:=h1.mod m5 (fun g hg=>by cases hg;omega);replace h2:=h2.mod m5 (fun g hg=>by cases hg;omega);replace hoC0:=hoC0.mod m5 (fun g hg=>by cases hg;omega);replace h3:=h3.mod m5 (fun g hg=>by cases hg;omega);replace ho1:=ho1.mod m5 (fun g hg=>by cases hg;omega)
  have z12:=m5.size
  refine Qd (Qh [true,true,true,false,false,true,false] Z Z (Qa (Qb Kd Z) Z (Qa (Qj Gc Z (h3.one 0 Z)) Z (Qa (Qt Xo Z h5.at Z) Z (Yz (vs:=[.agg [.int .i64 ((x.nodes[k0]'hi1).kind),.int .i64 ((x.nodes[k0]'hi1).a),.int .i64 ((x.nodes[k0]'hi1).b),v1].toArray]) (css:=[[.int .i64 ((x.nodes[k0]'hi1).kind),.int .i64 ((x.nodes[k0]'hi1).a),.int .i64 ((x.nodes[k0]'hi1).b),v1]]) Gv Z Z ⟨⟨Z,Z⟩,trivial⟩ Z Z (fun b7 w13 e7 s7 h7=>?_))))))
  replace h7 : Blk w13 b7 [.int .i64 ((x.nodes[k0]'hi1).kind),.int .i64 ((x.nodes[k0]'hi1).a),.int .i64 ((x.nodes[k0]'hi1).b),v1]:=h7
  have g_b7 : w.heap.size ≤ b7:=by have:=E.size;omega
  have y_b7:=h7.lt
  replace E:=E.trans e7;replace h1:=h1.ext e7;replace h2:=h2.ext e7;replace hoC0:=hoC0.ext e7;replace h3:=h3.ext e7;replace h5:=h5.ext e7;replace ho1:=ho1.ext e7
  have z13:=e7.size
  refine V1 (lo:=b4) (hi:=w7.heap.size) (lo2:=b6) (hi2:=w13.heap.size) Gv Z Z hoC0 (Src.ofBlk h7 Z) (Node.mkO (⟨(x.nodes[k0]'hi1).kind,(x.nodes[k0]'hi1).a,(x.nodes[k0]'hi1).b,[] ++ ((x.nodes[k0]'hi1).outs)⟩ : Node) ⟨trivial,trivial⟩ (Own.widen ho1 (by omega) (by omega))) (by omega) (by simp only [List.length_take,show Dat.sz Node = 4 from Z];omega) (by decide) (by omega) (by omega) (by omega) (by omega) (by omega) Z Z (fun v2 w14 m6 ho2=>?_)
  have hqb:=OwS.inn hoC0
  replace E:=E.step m6 (fun g hg=>by have:=hqb g hg;omega);replace h1:=h1.mod m6 (fun g hg=>by have:=hqb g hg;omega);replace h2:=h2.mod m6 (fun g hg=>by have:=hqb g hg;omega);replace h3:=h3.mod m6 (fun g hg=>by have:=hqb g hg;omega);replace h5:=h5.mod m6 (fun g hg=>by have:=hqb g hg;omega)
  have z14:=m6.size
  clear hqb
  refine Qa (Qb Kd Z) Z (Yj (cs':=[v2,.int .i64 x.workers,.int .i64 x.cap]) Gc Z Z (RdD.one (OwS.rd ho2)) h3 (Nat.le_of_ble_eq_true Z) Z (fun w15 m7 h3'=>?_))
  replace h3:=h3'
  replace E:=E.step m7 (fun g hg=>by cases hg;omega);replace h1:=h1.mod m7 (fun g hg=>by cases hg;omega);replace h2:=h2.mod m7 (fun g hg=>by cases hg;omega);replace h5:=h5.mod m7 (fun g hg=>by cases hg;omega);replace ho2:=ho2.mod m7 (fun g hg=>by cases hg;omega)
  have z15:=m7.size
  refine Qd (Q4 (Yr (Qh [true,true,true] Z Z (Qa (Qc Z) Z (Qa (Q8 Z Z (Yt hc1n (hd1.ext E).1.1)) Z (Qa (Qe Z) Z (Qd (Q4 (Yc (k0 + 1,v2) (by simp;omega) ⟨Z,Z,Z,Z,Z,trivial⟩ ⟨E,(by omega),h1,h2,(by omega),(by rw [List.take_succ_eq_append_getElem (by assumption)];exact OwS.widen ho2 (by omega) (by omega)),h3⟩)))))))))
 ·have hc1n : ¬ k0 < x.nodes.length:=by first | (have h:=of_decide_eq_false hc1;omega) | (have h:=hc1;simp at h;omega)
  refine Yn (Q5 (Q3 ?_))
  refine Qf (Qh [true,false] Z Z (Qa (Qt Km Z h3.at Z) Z (Q6 (cs':=[vo0,.int .i64 x.workers,.int .i64 x.cap]) Km Z Z Z (Qk (RdD.one (OwS.rd hoC0)) (Qk Z (Qk Z Z))) h2 (Nat.le_of_ble_eq_true Z) Z (fun w16 m8 h2'=>?_))))
  replace h2:=h2'
  replace E:=E.step m8 (fun g hg=>by cases hg;omega);replace h1:=h1.mod m8 (fun g hg=>by cases hg;omega);replace hoC0:=hoC0.mod m8 (fun g hg=>by cases hg;omega);replace h3:=h3.mod m8 (fun g hg=>by cases hg;omega)
  have z16:=m8.size
  refine Qd (Qw (Kk Z Z (Yi Km h2.at Z) E ?_))
  rw [List.take_of_length_le (by omega)] at hoC0
  exact ⟨_,Z,OwS.widen hoC0 (by have:=E.size;omega) (by omega)⟩

end Go.Proofs.YtaangeddnfnhdaaGreat
