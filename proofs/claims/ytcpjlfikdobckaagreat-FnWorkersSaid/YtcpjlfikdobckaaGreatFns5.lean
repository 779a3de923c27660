/- What the functions that the laws call come to: a contract each; no condition. -/
import Derived.Test.YtcpjlfikdobckaaGreatFns4
namespace Go.Proofs.YtcpjlfikdobckaaGreat
open Go Go.Proofs.YtcpjlfikdobckaaGreat.X Go.Proofs
set_option maxHeartbeats 4000000 in
set_option maxRecDepth 20000 in
theorem s_Adjust (vt : Value) (t : List Count) (s : Stamp) (n : Int) (w : World) (ht : RdS w vt t) (hb : t.length ≤ 1048576) : Ct Tryz.prog 65 [vt,.agg (Enc.enc s).toArray,.int .i64 n] w (fun v w'=>∃ u0,v = .tuple [u0,.bool ((Ua t s n).2)].toArray ∧ Own w' w.heap.size w'.heap.size 3 u0 (List.flatMap (Enc.enc (α:=Count)) ((Ua t s n).1))):=by
 refine Yp Tryz.func65 Z Tryz.ntmps65 Z ?_
 refine Yb [(0,vt),(1,.agg (Enc.enc s).toArray),(2,.int .i64 n)] ⟨Z,Z,Z,trivial⟩ ?_
 have E : Ext w w:=Ext.refl w
 refine Qh (Qi [false,true,true] Z Z (Xb Z Z (fun b1 w1 e1 s1 h1=>?_)))
 have g_b1 : w.heap.size ≤ b1:=by have:=E.size;omega
 have y_b1:=h1.lt
 replace E:=E.trans e1
 have z1:=e1.size
 refine Qa (Qe Z) Z (Qa (Qe Z) Z (Qd (Qh (Qi [false,true,false,true] Z Z (Qz (vs:=[]) (css:=[]) Uz Z Z trivial Z Z (fun b2 w2 e2 s2 h2=>?_))))))
 replace h2 : Blk w2 b2 []:=h2
 have g_b2 : w.heap.size ≤ b2:=by have:=E.size;omega
 have y_b2:=h2.lt
 replace E:=E.trans e2;replace h1:=h1.ext e2
 have z2:=e2.size
 refine Qa (Qb Z) Z (Xo Uz Z Z (Own.ofBlk (lo:=b2) (hi:=b2 + 1) (sz:=3) h2 (Nat.le_refl _) (Nat.lt_succ_self _) (by simp) (by simp [maxLen])) (RdS.src (ht.ext E)) (Xm _) (by simp only [Ya,List.length_append,List.length_cons,List.length_nil];simp only [Enc.sz];omega) (by decide) (by omega) (by omega) Z Z (fun v1 w3 m1 ho1=>?_))
 replace E:=E.step m1 (fun g hg=>by have:=Own.blk (Own.ofBlk (lo:=b2) (hi:=b2 + 1) (sz:=3) h2 (Nat.le_refl _) (Nat.lt_succ_self _) (by simp) (by simp [maxLen])) g hg;omega);replace h1:=h1.mod m1 (fun g hg=>by have:=Own.blk (Own.ofBlk (lo:=b2) (hi:=b2 + 1) (sz:=3) h2 (Nat.le_refl _) (Nat.lt_succ_self _) (by simp) (by simp [maxLen])) g hg;omega)
 have z3:=m1.size
 refine Qa (Qe Z) Z (Qd (Qh (Qh (Qi [true,false,true,true,true,false,true,true,true,true,false,true,true] Z Z (Qa (Qb Z) Z (Qw Tryz.call79 Z (s_CountsOk vt t _ (ht.ext E)) Z (fun _ w4 e3 hv=>?_)))))))
 subst hv
 replace E:=E.trans e3;replace h1:=h1.ext e3;replace ho1:=ho1.ext e3
 have z4:=e3.size
 refine Qa (Xn Z) Z (Qa (Qb Z) Z (Xr 9 [(0,vt),(1,.agg (Enc.enc s).toArray),(2,.int .i64 n),(4,.pointer (some ⟨b1,0,none⟩)),(6,.slice none 0 0),(7,.bool false),(8,v1),(13,.slice (some ⟨b2,0,none⟩) 0 0),(14,vt),(15,v1),(28,.bool (((!(Vk t)) || (!(Yo s))) || (!(Y2 n (-2000000) 2000000))))] (fun w'=>Ext w w' ∧ w4.heap.size ≤ w'.heap.size ∧ Blk w' b1 (Enc.enc s) ∧ Own w' b2 w3.heap.size 3 v1 ([] ++ List.flatMap (Enc.enc (α:=Count)) t)) ?_ ?_))
 ·refine Yz (gd:=19) Z Z (fun hg1=>?_) (fun hg1=>?_)
  ·refine Qc Z Z Z Z ?_
   refine Q3 Z Z Z Z ?_
   refine Qc Z Z Z Z (Qa (Qr Z Z) Z (Qa (Qb Z) Z (Qc Z Z Z Z ?_)))
   refine Q3 Z Z Z Z ?_
   refine Qc Z Z Z Z (Qa (Qr Z Z) Z (Qn ⟨Z,Z,Z,Z,Z,Z,Z,Z,Z,Z,congrArg (fun b=>some (Value.bool b)) (show true = (((!(Vk t)) || (!(Yo s))) || (!(Y2 n (-2000000) 2000000))) by first | (rw [hg1] <;> rfl) | (simp [hg1];done) | (simp only [Qq] <;> simp)),trivial⟩ ⟨E,(by omega),h1,ho1⟩))
  ·refine Qm Z Z (Ql Xs Z h1.at Z) Z ?_
   refine Xa Z Z ?_
   refine Qw Tryz.call75 Z (s_StampOk s _ ) Z (fun _ w6 e4 hv=>?_)
   subst hv
   replace E:=E.trans e4;replace h1:=h1.ext e4;replace ho1:=ho1.ext e4
   have z5:=e4.size
   refine Qm Z Z (Xn Z) Z (Qa (Qp Z Z) Z (Qa (Qb Z) Z ?_))
   refine Yz (gd:=24) Z Z (fun hg2=>?_) (fun hg2=>?_)
   ·refine Qc Z Z Z Z ?_
    refine Q3 Z Z Z Z ?_
    refine Qc Z Z Z Z (Qa (Qr Z Z) Z (Qn ⟨Z,Z,Z,Z,Z,Z,Z,Z,Z,Z,congrArg (fun b=>some (Value.bool b)) (show true = (((!(Vk t)) || (!(Yo s))) || (!(Y2 n (-2000000) 2000000))) by first | (rw [hg1,hg2] <;> rfl) | (simp [hg1,hg2];done) | (simp only [Qq] <;> simp)),trivial⟩ ⟨E,(by omega),h1,ho1⟩))
   ·refine Qm Z Z (Qb Z) Z ?_
    refine Xa Z Z ?_
    refine Qw Tryz.call32 Z (s_l01In n (-2000000) 2000000 _ ) Z (fun _ w7 e5 hv=>?_)
    subst hv
    replace E:=E.trans e5;replace h1:=h1.ext e5;replace ho1:=ho1.ext e5
    have z6:=e5.size
    refine Qm Z Z (Xn Z) Z (Qa (Qp Z Z) Z (Qn ⟨Z,Z,Z,Z,Z,Z,Z,Z,Z,Z,congrArg (fun b=>some (Value.bool b)) (show (!(Y2 n (-2000000) 2000000)) = (((!(Vk t)) || (!(Yo s))) || (!(Y2 n (-2000000) 2000000))) by first | (rw [hg1,hg2] <;> rfl) | (simp [hg1,hg2];done) | (simp only [Qq] <;> simp)),trivial⟩ ⟨E,(by omega),h1,ho1⟩))
 clear E h1 ho1
 rintro w5 ⟨E,z7,h1,ho1⟩
 refine Qd (Qt Z (fun hc1=>?_) (fun hc1=>?_))
 ·refine Qh (Qi [true,true,true] Z Z (Qa (Qb Z) Z (Qa (Qe Z) Z (Qa (Qe Z) Z (Qd (Qx (Y1 (l:=[.tmp 6,.tmp 7]) (vs:=[v1,.bool false]) Z ⟨.tmp Z,.tmp Z,trivial⟩ Z E ?_)))))))
  rw [adj_0 hc1]
  exact ⟨_,Z,(Own.fin ho1 (by have:=E.size;omega) (by omega) (by simp [*]))⟩
 ·refine Qy (Qh (Qi [true,true,false,true,true,true] Z Z (Qa (Qb Z) Z (Qa (Ql Xs Z h1.at Z) Z (Qw Tryz.call80 Z (s_CountAt vt t s _ (ht.ext E)) Z (fun _ w8 e6 hv=>?_))))))
  subst hv
  replace E:=E.trans e6;replace h1:=h1.ext e6;replace ho1:=ho1.ext e6
  have z8:=e6.size
  refine Qa (Qb Z) Z (Qa (Yu Z Z Z) Z (Qa (Qe Z) Z (Qd (Qh (Qh (Qi [true,false,true] Z Z (Qa (Qb Z) Z (Qw Tryz.call32 Z (s_l01In (IntKind.i64.wrap ((Ys t s) + n)) (-1000000) 1000000 _ ) Z (fun _ w9 e7 hv=>?_)))))))))
  subst hv
  replace E:=E.trans e7;replace h1:=h1.ext e7;replace ho1:=ho1.ext e7
  have z9:=e7.size
  refine Qa (Xn Z) Z (Qd (Qt Z (fun hc2=>?_) (fun hc2=>?_)))
  ·refine Qh (Qi [true,true,true] Z Z (Qa (Qb Z) Z (Qa (Qe Z) Z (Qa (Qe Z) Z (Qd (Qx (Y1 (l:=[.tmp 6,.tmp 7]) (vs:=[v1,.bool false]) Z ⟨.tmp Z,.tmp Z,trivial⟩ Z E ?_)))))))
   rw [adj_1 hc1 hc2]
   exact ⟨_,Z,(Own.fin ho1 (by have:=E.size;omega) (by omega) (by simp [*]))⟩
  ·refine Qy (Qh (Qi [false,true] Z Z (Qz (vs:=[]) (css:=[]) Uz Z Z trivial Z Z (fun b3 w10 e8 s3 h3=>?_))))
   replace h3 : Blk w10 b3 []:=h3
   have g_b3 : w.heap.size ≤ b3:=by have:=E.size;omega
   have y_b3:=h3.lt
   replace E:=E.trans e8;replace h1:=h1.ext e8;replace ho1:=ho1.ext e8
   have z10:=e8.size
   refine Qa (Qe Z) Z (Qd (Qh (Qi [true,true,true] Z Z (Qa (Qb Z) Z (Qa (Y9 Z Z) Z (Qa (Qe Z) Z (Qd (Qh (Qh (Qi [true] Z Z (Qa (Qe Z) Z (Qd (Q2 (Y6 (fun (xq : Nat × Value × List Count × Bool)=>let ⟨k,vo,ls,dn⟩:=xq;[(0,vt),(4,.pointer (some ⟨b1,0,none⟩)),(6,.slice none 0 0),(7,.bool false),(9,.int .i64 (IntKind.i64.wrap ((Ys t s) + n))),(10,vo),(11,.bool dn),(12,.int .i64 ((k : Nat) : Int))]) (fun (xq : Nat × Value × List Count × Bool) w'=>let ⟨k,vo,ls,dn⟩:=xq;Ext w w' ∧ w10.heap.size ≤ w'.heap.size ∧ Blk w' b1 (Enc.enc s) ∧ Own w' b2 w3.heap.size 3 v1 ([] ++ List.flatMap (Enc.enc (α:=Count)) t) ∧ k ≤ t.length ∧ U0 s (IntKind.i64.wrap ((Ys t s) + n)) (t.take k) = (ls,dn) ∧ Own w' b3 w'.heap.size 3 vo (List.flatMap (Enc.enc (α:=Count)) ls)) (fun (xq : Nat × Value × List Count × Bool)=>let ⟨k,vo,ls,dn⟩:=xq;t.length - k) (0,.slice (some ⟨b3,0,none⟩) 0 0,[],((IntKind.i64.wrap ((Ys t s) + n)) == 0)) ⟨Z,Z,Z,Z,Z,Z,Z,Z,trivial⟩ ⟨E,Nat.le_refl _,h1,ho1,Nat.zero_le _,run_0,Own.fin (Own.ofBlk (lo:=b3) (hi:=b3 + 1) (sz:=3) h3 (Nat.le_refl _) (Nat.lt_succ_self _) (by simp) (by simp [maxLen])) (by omega) (by omega) Z⟩ ?_))))))))))))))
   clear E h1 ho1 h3
   rintro ⟨k,vo,ls,dn⟩ w11 ⟨E,z11,h1,ho1,hk,hR,ho⟩
   refine Yb [(0,vt),(4,.pointer (some ⟨b1,0,none⟩)),(6,.slice none 0 0),(7,.bool false),(9,.int .i64 (IntKind.i64.wrap ((Ys t s) + n))),(10,vo),(11,.bool dn),(12,.int .i64 ((k : Nat) : Int))] ⟨Z,Z,Z,Z,Z,Z,Z,Z,trivial⟩ ?_
   have hal : ls.length ≤ k + 1:=by have h:=@adjRun_len t s (IntKind.i64.wrap ((Ys t s) + n)) k hk;rw [hR] at h;exact h
   refine Qh (Qh (Qi [true,true,true,true] Z Z (Qa (Qb Z) Z (Qa (Qb Z) Z (Qa (Ye Tryz.underlying38 Z (ht.ext E).len) Z (Qa (Xe Z Z) Z (Qd (Qt Z (fun hc3=>?_) (fun hc3=>?_)))))))))
   ·have hc3n : k < t.length:=by first | (have h:=of_decide_eq_true hc3;omega) | (have h:=hc3;simp at h;omega)
    refine Qy (Qh (Q2 (Qh (Qh (Xk Xd [(0,true),(1,true),(2,true),(3,true),(4,true),(5,true),(6,true),(7,true),(8,true),(9,false),(10,true),(11,true)] (by decide +kernel) Z (fun w12 e9=>?_))))))
    replace E:=E.trans e9;replace h1:=h1.ext e9;replace ho1:=ho1.ext e9;replace ho:=ho.ext e9
    have z12:=e9.size
    refine Qa (Qb Z) Z (Qa (Xn Z) Z (Qa (Qb Z) Z (Xr 9 [(0,vt),(4,.pointer (some ⟨b1,0,none⟩)),(6,.slice none 0 0),(7,.bool false),(9,.int .i64 (IntKind.i64.wrap ((Ys t s) + n))),(10,vo),(11,.bool dn),(12,.int .i64 ((k : Nat) : Int)),(42,.int .i64 ((k : Nat) : Int)),(43,vt),(44,.int .i64 ((t.length : Nat) : Int)),(45,.bool (decide (((k : Nat) : Int) < ((t.length : Nat) : Int)))),(59,.bool ((!dn) && (decide ((Yi s ((List.getD t k default).stamp)) ≤ 0))))] (fun w'=>Ext w w' ∧ w12.heap.size ≤ w'.heap.size ∧ Blk w' b1 (Enc.enc s) ∧ Own w' b2 w3.heap.size 3 v1 ([] ++ List.flatMap (Enc.enc (α:=Count)) t) ∧ Own w' b3 w11.heap.size 3 vo (List.flatMap (Enc.enc (α:=Count)) ls)) ?_ ?_)))
    ·refine Yz (gd:=50) Z Z (fun hg3=>?_) (fun hg3=>?_)
     ·refine Qm Z Z (Ql Xs Z h1.at Z) Z (Qm Z Z (Qb Z) Z (Qm Z Z (Qb Z) Z (Qm Z Z (Q5 (i:=k) Uz Z Z (ht.ext E) (by first | assumption | omega | (simp only [List.length_set];first | assumption | omega) | (simp only [List.getElem_set_self,List.length_set];first | assumption | omega) | (simp only [Y3,Yj,List.length_set];first | assumption | omega) | (simp;done))) Z (Qm Z Z (Q7 Hk Z) Z (Qm Z Z (Ql Xs Z ((RdS.getD (ht.ext E) (i:=k) (by first | assumption | omega | (simp only [List.length_set];first | assumption | omega) | (simp only [List.getElem_set_self,List.length_set];first | assumption | omega) | (simp only [Y3,Yj,List.length_set];first | assumption | omega) | (simp;done))).part 0 [.int .i64 (((List.getD t k default).stamp).epoch),.int .i64 (((List.getD t k default).stamp).turn)] Z) Z) Z ?_)))))
      refine Xa Z Z ?_
      refine Qw Tryz.call81 Z (s_StampOrder s ((List.getD t k default).stamp) _ ) Z (fun _ w14 e10 hv=>?_)
      subst hv
      replace E:=E.trans e10;replace h1:=h1.ext e10;replace ho1:=ho1.ext e10;replace ho:=ho.ext e10
      have z13:=e10.size
      refine Qm Z Z (H8 Z Z) Z (Qa (Qr Z Z) Z (Qn ⟨Z,Z,Z,Z,Z,Z,Z,Z,Z,Z,Z,Z,congrArg (fun b=>some (Value.bool b)) (show (decide ((Yi s ((List.getD t k default).stamp)) ≤ 0)) = ((!dn) && (decide ((Yi s ((List.getD t k default).stamp)) ≤ 0))) by first | (rw [hg3] <;> rfl) | (simp [hg3];done) | (simp only [Qq] <;> simp)),trivial⟩ ⟨E,(by omega),h1,ho1,ho⟩))
     ·refine Qc Z Z Z Z (Qc Z Z Z Z (Qc Z Z Z Z (Qc Z Z Z Z (Qc Z Z Z Z (Qc Z Z Z Z ?_)))))
      refine Q3 Z Z Z Z ?_
      refine Qc Z Z Z Z (Qa (Qp Z Z) Z (Qn ⟨Z,Z,Z,Z,Z,Z,Z,Z,Z,Z,Z,Z,congrArg (fun b=>some (Value.bool b)) (show false = ((!dn) && (decide ((Yi s ((List.getD t k default).stamp)) ≤ 0))) by first | (rw [hg3] <;> rfl) | (simp [hg3];done) | (simp only [Qq] <;> simp)),trivial⟩ ⟨E,(by omega),h1,ho1,ho⟩))
    clear E h1 ho1 ho
    rintro w13 ⟨E,z14,h1,ho1,ho⟩
    refine Qd (Qt Z (fun hc4=>?_) (fun hc4=>?_))
    ·refine Qh (Qi [true,true,true,true,false,false,true] Z Z (Qa (Qb Z) Z (Qa (Ql Xs Z h1.at Z) Z (Qa (Qb Z) Z (Qa (Kv (⟨s,IntKind.i64.wrap ((Ys t s) + n)⟩ : Count) Z (fun _=>by kernel_rfl)) Z (Qz (vs:=[.agg (Enc.enc (⟨s,IntKind.i64.wrap ((Ys t s) + n)⟩ : Count)).toArray]) (css:=[[.int .i64 (((⟨s,IntKind.i64.wrap ((Ys t s) + n)⟩ : Count).stamp).epoch),.int .i64 (((⟨s,IntKind.i64.wrap ((Ys t s) + n)⟩ : Count).stamp).turn),.int .i64 ((⟨s,IntKind.i64.wrap ((Ys t s) + n)⟩ : Count).n)]]) Uz Z Z ⟨⟨Z,Z⟩,trivial⟩ Z Z (fun b4 w15 e11 s4 h4=>?_)))))))
     replace h4 : Blk w15 b4 [.int .i64 (((⟨s,IntKind.i64.wrap ((Ys t s) + n)⟩ : Count).stamp).epoch),.int .i64 (((⟨s,IntKind.i64.wrap ((Ys t s) + n)⟩ : Count).stamp).turn),.int .i64 ((⟨s,IntKind.i64.wrap ((Ys t s) + n)⟩ : Count).n)]:=h4
     have g_b4 : w.heap.size ≤ b4:=by have:=E.size;omega
     have y_b4:=h4.lt
     replace E:=E.trans e11;replace h1:=h1.ext e11;replace ho1:=ho1.ext e11;replace ho:=ho.ext e11
     have z15:=e11.size
     refine Xo Uz Z Z ho (Src.ofBlk h4 Z) Z (by simp only [Ya,List.length_append,List.length_cons,List.length_nil];simp only [Enc.sz];omega) (by decide) (by omega) (by omega) Z Z (fun v2 w16 m2 ho2=>?_)
     replace E:=E.step m2 (fun g hg=>by have:=Own.blk ho g hg;omega);replace h1:=h1.mod m2 (fun g hg=>by have:=Own.blk ho g hg;omega);replace ho1:=ho1.mod m2 (fun g hg=>by have:=Own.blk ho g hg;omega)
     have z16:=m2.size
     refine Qa (Qe Z) Z (Qd (Qi [true] Z Z (Qa (Qe Z) Z (Qd (Qh (Xk Xd [(0,true),(1,true),(2,true),(3,true),(4,true),(5,true),(6,true)] (by decide +kernel) Z (fun w17 e12=>?_)))))))
     replace E:=E.trans e12;replace h1:=h1.ext e12;replace ho1:=ho1.ext e12;replace ho2:=ho2.ext e12
     have z17:=e12.size
     refine Qa (Qb Z) Z (Qa (Qb Z) Z ?_)
     have hi1 : k < t.length:=(by first | assumption | omega | (simp only [List.length_set];first | assumption | omega) | (simp only [List.getElem_set_self,List.length_set];first | assumption | omega) | (simp only [Y3,Yj,List.length_set];first | assumption | omega) | (simp;done))
     refine Qa (Q5 (i:=k) Uz Z Z (ht.ext E) hi1) Z (Qa (Q7 Hk Z) Z (Qa (Ql Xs Z (((ht.ext E).get hi1).part 0 [.int .i64 (((t[k]'hi1).stamp).epoch),.int .i64 (((t[k]'hi1).stamp).turn)] Z) Z) Z (Qa (Ql Xs Z h1.at Z) Z (Qa (G5 (ne53 ((t[k]'hi1).stamp) s) eqg53 Z Z) Z (Qd (Qt Z (fun hc5=>?_) (fun hc5=>?_)))))))
     ·refine Qi [true,true,true,true,true,false,false,true] Z Z (Qa (Qb Z) Z (Qa (Qb Z) Z (Qa (Qb Z) Z (Qa (Q5 (i:=k) Uz Z Z (ht.ext E) hi1) Z (Qa (Ql st61 Z ((ht.ext E).get hi1) Z) Z (Qz (vs:=[.agg (Enc.enc (t[k]'hi1)).toArray]) (css:=[[.int .i64 (((t[k]'hi1).stamp).epoch),.int .i64 (((t[k]'hi1).stamp).turn),.int .i64 ((t[k]'hi1).n)]]) Uz Z Z ⟨⟨Z,Z⟩,trivial⟩ Z Z (fun b5 w18 e13 s5 h5=>?_)))))))
      replace h5 : Blk w18 b5 [.int .i64 (((t[k]'hi1).stamp).epoch),.int .i64 (((t[k]'hi1).stamp).turn),.int .i64 ((t[k]'hi1).n)]:=h5
      have g_b5 : w.heap.size ≤ b5:=by have:=E.size;omega
      have y_b5:=h5.lt
      replace E:=E.trans e13;replace h1:=h1.ext e13;replace ho1:=ho1.ext e13;replace ho2:=ho2.ext e13
      have z18:=e13.size
      refine Xo Uz Z Z ho2 (Src.ofBlk h5 Z) Z (by simp only [Ya,List.length_append,List.length_cons,List.length_nil];simp only [Enc.sz];omega) (by decide) (by omega) (by omega) Z Z (fun v3 w19 m3 ho3=>?_)
      replace E:=E.step m3 (fun g hg=>by have:=Own.blk ho2 g hg;omega);replace h1:=h1.mod m3 (fun g hg=>by have:=Own.blk ho2 g hg;omega);replace ho1:=ho1.mod m3 (fun g hg=>by have:=Own.blk ho2 g hg;omega)
      have z19:=m3.size
      refine Qa (Qe Z) Z (Qd (Q4 (Yn (Qi [true,true,true] Z Z (Qa (Qb Z) Z (Qa (Yu Z Z (Ku (by unfold maxLen;omega))) Z (Qa (Qe Z) Z (Qd (Q4 (Yg (k + 1,v3,((ls ++ [(⟨s,IntKind.i64.wrap ((Ys t s) + n)⟩ : Count)]) ++ [(t[k]'hi1)]),true) (by simp;omega) ⟨Z,Z,Z,Z,Z,Z,Z,Z,trivial⟩ ⟨E,(by omega),h1,ho1,(by omega),(by rw [Tp (by assumption) hR,H0 (by assumption) hc4 hc5];first | rfl | (simp;done)),Own.fin ho3 (by omega) (by omega) (by first | rfl | (simp [Enc.enc];done))⟩))))))))))
     ·refine Qy (Q4 (Yn (Qi [true,true,true] Z Z (Qa (Qb Z) Z (Qa (Yu Z Z (Ku (by unfold maxLen;omega))) Z (Qa (Qe Z) Z (Qd (Q4 (Yg (k + 1,v2,(ls ++ [(⟨s,IntKind.i64.wrap ((Ys t s) + n)⟩ : Count)]),true) (by simp;omega) ⟨Z,Z,Z,Z,Z,Z,Z,Z,trivial⟩ ⟨E,(by omega),h1,ho1,(by omega),(by rw [Tp (by assumption) hR,H0 (by assumption) hc4 hc5];first | rfl | (simp;done)),Own.fin ho2 (by omega) (by omega) (by first | rfl | (simp [Enc.enc];done))⟩)))))))))
    ·refine Qy (Qh (Xk Xd [(0,true),(1,true),(2,true),(3,true),(4,true),(5,true),(6,true)] (by decide +kernel) Z (fun w20 e14=>?_)))
     replace E:=E.trans e14;replace h1:=h1.ext e14;replace ho1:=ho1.ext e14;replace ho:=ho.ext e14
     have z20:=e14.size
     refine Qa (Qb Z) Z (Qa (Qb Z) Z ?_)
     have hi2 : k < t.length:=(by first | assumption | omega | (simp only [List.length_set];first | assumption | omega) | (simp only [List.getElem_set_self,List.length_set];first | assumption | omega) | (simp only [Y3,Yj,List.length_set];first | assumption | omega) | (simp;done))
     refine Qa (Q5 (i:=k) Uz Z Z (ht.ext E) hi2) Z (Qa (Q7 Hk Z) Z (Qa (Ql Xs Z (((ht.ext E).get hi2).part 0 [.int .i64 (((t[k]'hi2).stamp).epoch),.int .i64 (((t[k]'hi2).stamp).turn)] Z) Z) Z (Qa (Ql Xs Z h1.at Z) Z (Qa (G5 (ne53 ((t[k]'hi2).stamp) s) eqg53 Z Z) Z (Qd (Qt Z (fun hc6=>?_) (fun hc6=>?_)))))))
     ·refine Qi [true,true,true,true,true,false,false,true] Z Z (Qa (Qb Z) Z (Qa (Qb Z) Z (Qa (Qb Z) Z (Qa (Q5 (i:=k) Uz Z Z (ht.ext E) hi2) Z (Qa (Ql st61 Z ((ht.ext E).get hi2) Z) Z (Qz (vs:=[.agg (Enc.enc (t[k]'hi2)).toArray]) (css:=[[.int .i64 (((t[k]'hi2).stamp).epoch),.int .i64 (((t[k]'hi2).stamp).turn),.int .i64 ((t[k]'hi2).n)]]) Uz Z Z ⟨⟨Z,Z⟩,trivial⟩ Z Z (fun b6 w21 e15 s6 h6=>?_)))))))
      replace h6 : Blk w21 b6 [.int .i64 (((t[k]'hi2).stamp).epoch),.int .i64 (((t[k]'hi2).stamp).turn),.int .i64 ((t[k]'hi2).n)]:=h6
      have g_b6 : w.heap.size ≤ b6:=by have:=E.size;omega
      have y_b6:=h6.lt
      replace E:=E.trans e15;replace h1:=h1.ext e15;replace ho1:=ho1.ext e15;replace ho:=ho.ext e15
      have z21:=e15.size
      refine Xo Uz Z Z ho (Src.ofBlk h6 Z) Z (by simp only [Ya,List.length_append,List.length_cons,List.length_nil];simp only [Enc.sz];omega) (by decide) (by omega) (by omega) Z Z (fun v4 w22 m4 ho4=>?_)
      replace E:=E.step m4 (fun g hg=>by have:=Own.blk ho g hg;omega);replace h1:=h1.mod m4 (fun g hg=>by have:=Own.blk ho g hg;omega);replace ho1:=ho1.mod m4 (fun g hg=>by have:=Own.blk ho g hg;omega)
      have z22:=m4.size
      refine Qa (Qe Z) Z (Qd (Q4 (Yn (Qi [true,true,true] Z Z (Qa (Qb Z) Z (Qa (Yu Z Z (Ku (by unfold maxLen;omega))) Z (Qa (Qe Z) Z (Qd (Q4 (Yg (k + 1,v4,(ls ++ [(t[k]'hi2)]),dn) (by simp;omega) ⟨Z,Z,Z,Z,Z,Z,Z,Z,trivial⟩ ⟨E,(by omega),h1,ho1,(by omega),(by rw [Tp (by assumption) hR,H0 (by assumption) hc4 hc6];first | rfl | (simp;done)),Own.fin ho4 (by omega) (by omega) (by first | rfl | (simp [Enc.enc];done))⟩))))))))))
     ·refine Qy (Q4 (Yn (Qi [true,true,true] Z Z (Qa (Qb Z) Z (Qa (Yu Z Z (Ku (by unfold maxLen;omega))) Z (Qa (Qe Z) Z (Qd (Q4 (Yg (k + 1,vo,ls,dn) (by simp;omega) ⟨Z,Z,Z,Z,Z,Z,Z,Z,trivial⟩ ⟨E,(by omega),h1,ho1,(by omega),(by rw [Tp (by assumption) hR,H0 (by assumption) hc4 hc6];first | rfl | (simp;done)),Own.fin ho (by omega) (by omega) (by first | rfl | (simp [Enc.enc];done))⟩)))))))))
   ·have hc3n : ¬ k < t.length:=by first | (have h:=of_decide_eq_false hc3;omega) | (have h:=hc3;simp at h;omega)
    refine Y5 (Yc (Q8 ?_))
    refine Qh (Qh (Qi [true,true] Z Z (Qa (Qb Z) Z (Qa (Xn Z) Z (Qd (Qt Z (fun hc7=>?_) (fun hc7=>?_)))))))
    ·refine Qi [true,true,true,true,false,false,true] Z Z (Qa (Qb Z) Z (Qa (Ql Xs Z h1.at Z) Z (Qa (Qb Z) Z (Qa (Kv (⟨s,IntKind.i64.wrap ((Ys t s) + n)⟩ : Count) Z (fun _=>by kernel_rfl)) Z (Qz (vs:=[.agg (Enc.enc (⟨s,IntKind.i64.wrap ((Ys t s) + n)⟩ : Count)).toArray]) (css:=[[.int .i64 (((⟨s,IntKind.i64.wrap ((Ys t s) + n)⟩ : Count).stamp).epoch),.int .i64 (((⟨s,IntKind.i64.wrap ((Ys t s) + n)⟩ : Count).stamp).turn),.int .i64 ((⟨s,IntKind.i64.wrap ((Ys t s) + n)⟩ : Count).n)]]) Uz Z Z ⟨⟨Z,Z⟩,trivial⟩ Z Z (fun b7 w23 e16 s7 h7=>?_))))))
     replace h7 : Blk w23 b7 [.int .i64 (((⟨s,IntKind.i64.wrap ((Ys t s) + n)⟩ : Count).stamp).epoch),.int .i64 (((⟨s,IntKind.i64.wrap ((Ys t s) + n)⟩ : Count).stamp).turn),.int .i64 ((⟨s,IntKind.i64.wrap ((Ys t s) + n)⟩ : Count).n)]:=h7
     have g_b7 : w.heap.size ≤ b7:=by have:=E.size;omega
     have y_b7:=h7.lt
     replace E:=E.trans e16;replace h1:=h1.ext e16;replace ho1:=ho1.ext e16;replace ho:=ho.ext e16
     have z23:=e16.size
     refine Xo Uz Z Z ho (Src.ofBlk h7 Z) Z (by simp only [Ya,List.length_append,List.length_cons,List.length_nil];simp only [Enc.sz];omega) (by decide) (by omega) (by omega) Z Z (fun v5 w24 m5 ho5=>?_)
     replace E:=E.step m5 (fun g hg=>by have:=Own.blk ho g hg;omega);replace h1:=h1.mod m5 (fun g hg=>by have:=Own.blk ho g hg;omega);replace ho1:=ho1.mod m5 (fun g hg=>by have:=Own.blk ho g hg;omega)
     have z24:=m5.size
     refine Qa (Qe Z) Z (Qd (Qh (Qi [true,true,true] Z Z (Qa (Qb Z) Z (Qa (Qe Z) Z (Qa (Qe Z) Z (Qd (Qx (Y1 (l:=[.tmp 6,.tmp 7]) (vs:=[v5,.bool true]) Z ⟨.tmp Z,.tmp Z,trivial⟩ Z E ?_)))))))))
     rw [adj_2 hc1 hc2,adjM_yes hR (by omega) hc7]
     exact ⟨_,Z,(Own.fin ho5 (by have:=E.size;omega) (by omega) (by first | (simp [*];done) | (simp [Enc.enc];done)))⟩
    ·refine Qy (Qh (Qi [true,true,true] Z Z (Qa (Qb Z) Z (Qa (Qe Z) Z (Qa (Qe Z) Z (Qd (Qx (Y1 (l:=[.tmp 6,.tmp 7]) (vs:=[vo,.bool true]) Z ⟨.tmp Z,.tmp Z,trivial⟩ Z E ?_))))))))
     rw [adj_2 hc1 hc2,adjM_no hR (by omega) hc7]
     exact ⟨_,Z,(Own.fin ho (by have:=E.size;omega) (by omega) (by first | (simp [*];done) | (simp [Enc.enc];done)))⟩

set_option maxRecDepth 20000 in
theorem s_CountsOfRecords (vrs : Value) (rs : List Record) (w : World) (hrs : RdS w vrs rs) (hb : rs.length ≤ 1048576) : Ct Tryz.prog 35 [vrs] w (fun v w'=>Own w' w.heap.size w'.heap.size 3 v (List.flatMap (Enc.enc (α:=Count)) (Vd rs))):=by
 refine Yp Tryz.func35 Z Tryz.ntmps35 Z ?_
 refine Yb [(0,vrs)] ⟨Z,trivial⟩ ?_
 have E : Ext w w:=Ext.refl w
 refine Qh (Qi [true] Z Z (Qa (Qe Z) Z (Qd (Qh (Qi [false,true] Z Z (Qz (vs:=[]) (css:=[]) Uz Z Z trivial Z Z (fun b1 w1 e1 s1 h1=>?_)))))))
 replace h1 : Blk w1 b1 []:=h1
 have g_b1 : w.heap.size ≤ b1:=by have:=E.size;omega
 have y_b1:=h1.lt
 replace E:=E.trans e1
 have z1:=e1.size
 refine Qa (Qe Z) Z (Qd (Qh (Qh (Qi [true] Z Z (Qa (Qe Z) Z (Qd (Q2 (Y6 (fun (xq : Nat × Value)=>let ⟨k,vo⟩:=xq;[(0,vrs),(2,.slice none 0 0),(3,vo),(4,.int .i64 ((k : Nat) : Int))]) (fun (xq : Nat × Value) w'=>let ⟨k,vo⟩:=xq;Ext w w' ∧ w1.heap.size ≤ w'.heap.size ∧ k ≤ rs.length ∧ Own w' b1 w'.heap.size 3 vo (List.flatMap (Enc.enc (α:=Count)) (Vd (rs.take k)))) (fun (xq : Nat × Value)=>let ⟨k,vo⟩:=xq;rs.length - k) (0,.slice (some ⟨b1,0,none⟩) 0 0) ⟨Z,Z,Z,Z,trivial⟩ ⟨E,Nat.le_refl _,Nat.zero_le _,Own.fin (Own.ofBlk (lo:=b1) (hi:=b1 + 1) (sz:=3) h1 (Nat.le_refl _) (Nat.lt_succ_self _) (by simp) (by simp [maxLen])) (by omega) (by omega) Z⟩ ?_))))))))
 clear E h1
 rintro ⟨k,vo⟩ w2 ⟨E,z2,hk,ho⟩
 refine Yb [(0,vrs),(2,.slice none 0 0),(3,vo),(4,.int .i64 ((k : Nat) : Int))] ⟨Z,Z,Z,Z,trivial⟩ ?_
 have hcl:=cntTo_len (rs.take k)
 rw [List.length_take] at hcl
 refine Qh (Qh (Qi [true,true,true,true] Z Z (Qa (Qb Z) Z (Qa (Qb Z) Z (Qa (Ye Tryz.underlying27 Z (hrs.ext E).len) Z (Qa (Xe Z Z) Z (Qd (Qt Z (fun hc1=>?_) (fun hc1=>?_)))))))))
 ·have hc1n : k < rs.length:=by first | (have h:=of_decide_eq_true hc1;omega) | (have h:=hc1;simp at h;omega)
  refine Qy (Qh (Q2 (Qi [true,true,true,true,true,true,false,true,true,true,true] Z Z (Qa (Qb Z) Z (Qa (Qb Z) Z (Qa (Qb Z) Z ?_))))))
  have hi1 : k < rs.length:=(by first | assumption | omega | (simp only [List.length_set];first | assumption | omega) | (simp only [List.getElem_set_self,List.length_set];first | assumption | omega) | (simp only [Y3,Yj,List.length_set];first | assumption | omega) | (simp;done))
  refine Qa (Q5 (i:=k) Xp Z Z (hrs.ext E) hi1) Z (Qa (Q7 X4 Z) Z (Qa (Ql Xs Z (((hrs.ext E).get hi1).part 1 [.int .i64 (((rs[k]'hi1).stamp).epoch),.int .i64 (((rs[k]'hi1).stamp).turn)] Z) Z) Z (Qw Tryz.call65 Z (s_Adjust vo (Vd (rs.take k)) ((rs[k]'hi1).stamp) 1 _ (Own.rd (by decide) ho) (by omega)) Z (fun _ w3 e2 ho1=>?_))))
  obtain ⟨v1,rfl,ho2⟩:=ho1
  have g_ho1 : w.heap.size ≤ w2.heap.size:=E.size
  replace E:=E.trans e2;replace ho:=ho.ext e2
  have z3:=e2.size
  refine Qa (Qb Z) Z (Qa (Ym Z Z) Z (Qa (Ym Z Z) Z (Qa (Qe Z) Z (Qd (Q4 (Yn (Qi [true,true,true] Z Z (Qa (Qb Z) Z (Qa (Yu Z Z (Ku (by unfold maxLen;omega))) Z (Qa (Qe Z) Z (Qd (Q4 (Yg (k + 1,v1) (by simp;omega) ⟨Z,Z,Z,Z,trivial⟩ ⟨E,(by omega),(by omega),Own.fin ho2 (by omega) (by omega) (by rw [cntTo_step (by assumption)])⟩)))))))))))))
 ·have hc1n : ¬ k < rs.length:=by first | (have h:=of_decide_eq_false hc1;omega) | (have h:=hc1;simp at h;omega)
  refine Y5 (Yc (Q8 ?_))
  refine Qh (Qi [true,true] Z Z (Qa (Qb Z) Z (Qa (Qe Z) Z (Qd (Qx (Qu Z Z E ?_))))))
  exact Own.fin ho (by have:=E.size;omega) (by omega) (by rw [List.take_of_length_le (by omega)])

set_option maxRecDepth 20000 in
theorem l_sameCounts (vxs : Value) (xs : List Count) (vys : Value) (ys : List Count) (w : World) (hxs : RdS w vxs xs) (hys : RdS w vys ys) : Ct Tryz.prog 8 [vxs,vys] w (fun v _=>v = .bool (decide (xs = ys))):=by
 refine Yp Tryz.func8 Z Tryz.ntmps8 Z ?_
 refine Yb [(0,vxs),(1,vys)] ⟨Z,Z,trivial⟩ ?_
 have E : Ext w w:=Ext.refl w
 refine Qh (Qi [true] Z Z (Qa (Qe Z) Z (Qd (Qh (Qh (Qi [true,true,true,true,true] Z Z (Qa (Qb Z) Z (Qa (Ye Tryz.underlying38 Z (hxs.ext E).len) Z (Qa (Qb Z) Z (Qa (Ye Tryz.underlying38 Z (hys.ext E).len) Z (Qa (X1 Z Z) Z (Qd (Qt Z (fun hc1=>?_) (fun hc1=>?_))))))))))))))
 ·have hc1n : ¬ xs.length = ys.length:=by first | (have h:=of_decide_eq_true hc1;omega) | (have h:=hc1;simp at h;omega)
  refine Qh (Qi [true] Z Z (Qa (Qe Z) Z (Qd (Qx (Qu Z Z E ?_)))))
  simp [V6 hc1n]
 ·have hc1n : xs.length = ys.length:=by first | (have h:=of_decide_eq_false hc1;omega) | (have h:=hc1;simp at h;omega)
  refine Qy (Qh (Qh (Qi [true] Z Z (Qa (Qe Z) Z (Qd (Q2 (Y6 (fun (k : Nat)=>[(0,vxs),(1,vys),(4,.bool false),(5,.int .i64 ((k : Nat) : Int))]) (fun (k : Nat) w'=>Ext w w' ∧ w.heap.size ≤ w'.heap.size ∧ k ≤ xs.length ∧ xs.take k = ys.take k) (fun (k : Nat)=>xs.length - k) 0 ⟨Z,Z,Z,Z,trivial⟩ ⟨E,Nat.le_refl _,Nat.zero_le _,Z⟩ ?_)))))))
  clear E
  rintro k w1 ⟨E,z1,hk,hp⟩
  refine Qh (Qh (Qi [true,true,true,true] Z Z (Qa (Qb Z) Z (Qa (Qb Z) Z (Qa (Ye Tryz.underlying38 Z (hxs.ext E).len) Z (Qa (Xe Z Z) Z (Qd (Qt Z (fun hc2=>?_) (fun hc2=>?_)))))))))
  ·have hc2n : k < xs.length:=by first | (have h:=of_decide_eq_true hc2;omega) | (have h:=hc2;simp at h;omega)
   refine Qy (Qh (Q2 (Qh (Xk Xd [(0,true),(1,true),(2,true),(3,true),(4,true),(5,true),(6,true),(7,true),(8,true)] (by decide +kernel) Z (fun w2 e1=>?_)))))
   replace E:=E.trans e1
   have z2:=e1.size
   refine Qa (Qb Z) Z (Qa (Qb Z) Z ?_)
   have hi1 : k < xs.length:=(by first | assumption | omega | (simp only [List.length_set];first | assumption | omega) | (simp only [List.getElem_set_self,List.length_set];first | assumption | omega) | (simp only [Y3,Yj,List.length_set];first | assumption | omega) | (simp;done))
   refine Qa (Q5 (i:=k) Uz Z Z (hxs.ext E) hi1) Z (Qa (Ql st61 Z ((hxs.ext E).get hi1) Z) Z (Qa (Qb Z) Z (Qa (Qb Z) Z ?_)))
   have hi2 : k < ys.length:=(by first | assumption | omega | (simp only [List.length_set];first | assumption | omega) | (simp only [List.getElem_set_self,List.length_set];first | assumption | omega) | (simp only [Y3,Yj,List.length_set];first | assumption | omega) | (simp;done))
   refine Qa (Q5 (i:=k) Uz Z Z (hys.ext E) hi2) Z (Qa (Ql st61 Z ((hys.ext E).get hi2) Z) Z (Qa (G5 (ne61 (xs[k]'hi1) (ys[k]'hi2)) eqg61 Z Z) Z (Qd (Qt Z (fun hc3=>?_) (fun hc3=>?_)))))
   ·refine Qh (Qi [true] Z Z (Qa (Qe Z) Z (Qd (Qx (Q0 (Yy (Q0 (Qu Z Z E ?_))))))))
    exact V7 (by omega) (by omega) (by simpa using hc3)
   ·refine Qy (Q4 (Yn (Qi [true,true,true] Z Z (Qa (Qb Z) Z (Qa (Yu Z Z (Yw hc2n hxs.1)) Z (Qa (Qe Z) Z (Qd (Q4 (Yg (k + 1) (by omega) ⟨Z,Z,Z,Z,trivial⟩ ⟨E,(by omega),(by omega),Uo hp (by assumption) (by omega) (by simpa using hc3)⟩)))))))))
  ·have hc2n : ¬ k < xs.length:=by first | (have h:=of_decide_eq_false hc2;omega) | (have h:=hc2;simp at h;omega)
   refine Y5 (Yc (Q8 ?_))
   refine Qh (Qi [true] Z Z (Qa (Qe Z) Z (Qd (Qx (Qu Z Z E ?_)))))
   exact U9 hp hc1n (by omega)

set_option maxRecDepth 20000 in
theorem c_SortFuncRec (vxs : Value) (lo hi : Nat) (xs : List Record) (w : World) (hxs : Own w lo hi 5 vxs (List.flatMap (Enc.enc (α:=Record)) xs)) (hb : xs.length ≤ 1048576) : CtR Tryz.prog 77 [vxs,.func (.func 78) #[] #[]] w lo hi (fun v w'=>v = .tuple #[] ∧ Own w' lo hi 5 vxs (List.flatMap (Enc.enc (α:=Record)) (Yq xs))):=by
 refine sort_slice Tryz.sortRec (fun _=>by kernel_rfl) (fun _=>by kernel_rfl) (fun x v h=>?_) Kl (fun x=>Af x) (fun x y z=>T8) (fun x y z=>Ae) (fun x y=>Ad) 78 (fun _ _=>by kernel_rfl) (fun x y w=>c_RecordOrder x y w) hxs hb
 simp only [Enc.enc,List.mem_cons,List.not_mem_nil,or_false] at h
 rcases h with rfl | rfl | rfl | rfl | rfl <;> rfl

set_option maxRecDepth 20000 in
theorem c_SortRecords (vxs : Value) (xs : List Record) (w : World) (hxs : RdS w vxs xs) (hb : xs.length ≤ 1048576) : Ct Tryz.prog 63 [vxs] w (fun v w'=>Own w' w.heap.size w'.heap.size 5 v (List.flatMap (Enc.enc (α:=Record)) (Yq xs))):=by
 refine Yp Tryz.func63 Z Tryz.ntmps63 Z ?_
 refine Yb [(0,vxs)] ⟨Z,trivial⟩ ?_
 have E : Ext w w:=Ext.refl w
 refine Qh (Qi [true] Z Z (Qa (Qe Z) Z (Qd (Qh (Qi [true,false,true] Z Z (Qa (Qb Z) Z (Qw Tryz.call34 Z (c_copyRecords vxs xs _ (hxs.ext E) (by first | omega | (simp only [Q1];omega) | (rw [Q1];done) | (simp only [Q1];done))) Z (fun v1 w1 e1 ho1=>?_))))))))
 have g_ho1 : w.heap.size ≤ w.heap.size:=E.size
 replace E:=E.trans e1
 have z1:=e1.size
 refine Qa (Qe Z) Z (Qd (Qh (Qi [true,false] Z Z (Qa (Qb Z) Z (Yf Tryz.call77 Z Z (c_SortFuncRec v1 w.heap.size w1.heap.size xs _ ho1 (by first | omega | (simp only [Q1];omega) | (rw [Q1];done) | (simp only [Q1];done))) Z (fun _ w2 e2 hv=>?_))))))
 obtain ⟨rfl,ho1'⟩:=hv
 replace ho1:=ho1'
 replace E:=E.stepR e2 (by omega)
 have z2:=e2.size
 refine Qd (Qh (Qi [true,true] Z Z (Qa (Qb Z) Z (Qa (Qe Z) Z (Qd (Qx (Qu Z Z E ?_)))))))
 exact Own.fin ho1 (by have:=E.size;omega) (by omega) (by simp [*])

set_option maxHeartbeats 4000000 in
set_option maxRecDepth 20000 in
theorem c_CountsOfRecords (vrs : Value) (rs : List Record) (w : World) (hrs : RdS w vrs rs) (hb : rs.length ≤ 1048576) : Ct Tryz.prog 33 [vrs] w (fun v w'=>Own w' w.heap.size w'.heap.size 3 v (List.flatMap (Enc.enc (α:=Count)) (Xl (Yq rs)))):=by
 refine Yp Tryz.func33 Z Tryz.ntmps33 Z ?_
 refine Yb [(0,vrs)] ⟨Z,trivial⟩ ?_
 have E : Ext w w:=Ext.refl w
 refine Qh (Qi [true] Z Z (Qa (Qe Z) Z (Qd (Qh (Qi [true] Z Z (Qa (Qe Z) Z (Qd (Qh (Qh (Qi [true,false,true,true] Z Z (Qa (Qb Z) Z (Qw Tryz.call63 Z (c_SortRecords vrs rs _ (hrs.ext E) (by first | omega | (simp only [Q1];omega) | (rw [Q1];done) | (simp only [Q1];done))) Z (fun v1 w1 e1 ho1=>?_)))))))))))))
 have g_ho1 : w.heap.size ≤ w.heap.size:=E.size
 replace E:=E.trans e1
 have z1:=e1.size
 refine Qa (Ye Tryz.underlying27 Z (Own.len (by decide) ho1)) Z (Qa (Qb Z) Z (Qd (Q2 (Y6 (fun (xq : Nat × Value)=>let ⟨k,vo⟩:=xq;[(2,.slice none 0 0),(3,vo),(8,v1),(9,.int .i64 (((Yq rs).length : Nat) : Int)),(10,.int .i64 ((k : Nat) : Int))]) (fun (xq : Nat × Value) w'=>let ⟨k,vo⟩:=xq;Ext w w' ∧ w1.heap.size ≤ w'.heap.size ∧ Own w' w.heap.size w1.heap.size 5 v1 (List.flatMap (Enc.enc (α:=Record)) (Yq rs)) ∧ k ≤ (Yq rs).length ∧ Own w' w1.heap.size w'.heap.size 3 vo (List.flatMap (Enc.enc (α:=Count)) (Xl ((Yq rs).take k)))) (fun (xq : Nat × Value)=>let ⟨k,vo⟩:=xq;(Yq rs).length - k) (0,.slice none 0 0) ⟨Z,Z,Z,Z,Z,trivial⟩ ⟨E,Nat.le_refl _,ho1,Nat.zero_le _,Own.fin (Own.nil w1 w1.heap.size w1.heap.size 3) (by omega) (by omega) Z⟩ ?_))))
 clear E ho1
 rintro ⟨k,vo⟩ w2 ⟨E,z2,ho1,hk,ho⟩
 refine Yb [(2,.slice none 0 0),(3,vo),(8,v1),(9,.int .i64 (((Yq rs).length : Nat) : Int)),(10,.int .i64 ((k : Nat) : Int))] ⟨Z,Z,Z,Z,Z,trivial⟩ ?_
 have hcl:=runTo_len ((Yq rs).take k)
 have hsl:=A7 rs
 rw [List.length_take] at hcl
 refine Qh (Qi [true] Z Z (Qa (Xe Z Z) Z (Qd (Qh (Qt Z (fun hc1=>?_) (fun hc1=>?_))))))
 ·have hc1n : k < (Yq rs).length:=by first | (have h:=of_decide_eq_true hc1;omega) | (have h:=hc1;simp at h;omega)
  refine Qy (Qh (Q2 (Qh (Qi [true,true,false,false] Z Z ?_))))
  have hi1 : k < (Yq rs).length:=(by first | assumption | omega | (simp only [List.length_set];first | assumption | omega) | (simp only [List.getElem_set_self,List.length_set];first | assumption | omega) | (simp only [Y3,Yj,List.length_set];first | assumption | omega) | (simp;done))
  refine Qa (Q5 (i:=k) Xp Z Z (Own.rd (by decide) ho1) hi1) Z (Qa (Ql Xq Z ((Own.rd (by decide) ho1).get hi1) Z) Z (Yd Xq Z (fun b1 w3 e2 s1 h1=>?_)))
  have g_b1 : w.heap.size ≤ b1:=by have:=E.size;omega
  have y_b1:=h1.lt
  replace E:=E.trans e2;replace ho1:=ho1.ext e2;replace ho:=ho.ext e2
  have z3:=e2.size
  refine Qs (cs':=[.int .i64 (((Yq rs)[k]'hi1).op),.int .i64 ((((Yq rs)[k]'hi1).stamp).epoch),.int .i64 ((((Yq rs)[k]'hi1).stamp).turn),.int .i64 (((Yq rs)[k]'hi1).key),.int .i64 (((Yq rs)[k]'hi1).val)]) Xq Z Z Z Z h1 (Nat.le_of_ble_eq_true Z) Z (fun w4 m1 h1'=>?_)
  replace h1:=h1'
  replace E:=E.step m1 (fun g hg=>by cases hg;omega);replace ho1:=ho1.mod m1 (fun g hg=>by cases hg;omega);replace ho:=ho.mod m1 (fun g hg=>by cases hg;omega)
  have z4:=m1.size
  refine Qd (Qh (Qh (Qi [true,true,false,true] Z Z (Qa (Qf X4 Z) Z (Qa (Ql Xs Z (h1.part 1 [.int .i64 ((((Yq rs)[k]'hi1).stamp).epoch),.int .i64 ((((Yq rs)[k]'hi1).stamp).turn)] Z) Z) Z (Qw Tryz.call64 Z (c_StampOk (((Yq rs)[k]'hi1).stamp) _ ) Z (fun _ w5 e3 hv=>?_)))))))
  subst hv
  replace E:=E.trans e3;replace ho1:=ho1.ext e3;replace ho:=ho.ext e3;replace h1:=h1.ext e3
  have z5:=e3.size
  refine Qa (Xn Z) Z (Qd (Qt Z (fun hc2=>?_) (fun hc2=>?_)))
  ·refine Y5 (Q8 ?_)
   refine Qi [true,true] Z Z (Qa (Yu Z Z (Ku (by unfold maxLen;omega))) Z (Qa (Qb Z) Z (Qd (Q4 (Yg (k + 1,vo) (by simp;omega) ⟨Z,Z,Z,Z,Z,trivial⟩ ⟨E,(by omega),ho1,(by omega),Own.fin ho (by omega) (by omega) (by rw [Tb (by assumption),Ac hc2])⟩)))))
  ·refine Qy (Qh (Qi [true,true,true] Z Z (Qa (Qb Z) Z (Qa (Ye Tryz.underlying38 Z (Own.len (by decide) ho)) Z (Qa (Qe Z) Z (Qd (Qh (Xk Xd [(0,true),(1,true),(2,true),(3,true),(4,true),(5,true),(6,true),(7,true),(8,true),(9,true),(10,true),(11,true),(12,true)] (by decide +kernel) Z (fun w6 e4=>?_)))))))))
   replace E:=E.trans e4;replace ho1:=ho1.ext e4;replace ho:=ho.ext e4;replace h1:=h1.ext e4
   have z6:=e4.size
   refine Qa (Qb Z) Z (Qa (U1 Z Z) Z (Qa (Qb Z) Z (Xr 10 [(2,.slice none 0 0),(3,vo),(5,.pointer (some ⟨b1,0,none⟩)),(6,.int .i64 (((Xl ((Yq rs).take k)).length : Nat) : Int)),(8,v1),(9,.int .i64 (((Yq rs).length : Nat) : Int)),(10,.int .i64 ((k : Nat) : Int)),(11,.bool (decide (((k : Nat) : Int) < (((Yq rs).length : Nat) : Int)))),(12,.pointer (some ⟨Kk v1,Ue v1 + k * 5,none⟩)),(13,.agg (Enc.enc ((Yq rs)[k]'hi1)).toArray),(14,.pointer (some ⟨b1,1,none⟩)),(15,.agg (Enc.enc (((Yq rs)[k]'hi1).stamp)).toArray),(16,.bool (Yo (((Yq rs)[k]'hi1).stamp))),(17,.bool (!(Yo (((Yq rs)[k]'hi1).stamp)))),(18,vo),(19,.int .i64 (((Xl ((Yq rs).take k)).length : Nat) : Int)),(32,.bool ((decide (0 < (((Xl ((Yq rs).take k)).length : Nat) : Int))) && (decide (((List.getD (Xl ((Yq rs).take k)) ((Xl ((Yq rs).take k)).length - 1) default).stamp) = (((Yq rs)[k]'hi1).stamp)))))] (fun w'=>w6 = w') ?_ ?_)))
   ·refine Yz (gd:=22) Z Z (fun hg1=>?_) (fun hg1=>?_)
    ·have hg1n : (Xl ((Yq rs).take k)).length > 0:=by first | (have h:=of_decide_eq_true hg1;omega) | (have h:=hg1;simp at h;omega)
     refine Qm Z Z (Qb Z) Z (Qm Z Z (Qb Z) Z (Qm Z Z (Gh Z Z (nat_sub (b:=1) (by omega) (by unfold maxLen;omega))) Z ?_))
     have hi2 : ((Xl ((Yq rs).take k)).length - 1) < (Xl ((Yq rs).take k)).length:=(by first | assumption | omega | (simp only [List.length_set];first | assumption | omega) | (simp only [List.getElem_set_self,List.length_set];first | assumption | omega) | (simp only [Y3,Yj,List.length_set];first | assumption | omega) | (simp;done))
     refine Qm Z Z (Q5 (i:=((Xl ((Yq rs).take k)).length - 1)) Uz Z Z (Own.rd (by decide) ho) hi2) Z (Qm Z Z (Q7 Hk Z) Z (Qm Z Z (Ql Xs Z ((RdS.getD (Own.rd (by decide) ho) (i:=((Xl ((Yq rs).take k)).length - 1)) hi2).part 0 [.int .i64 (((List.getD (Xl ((Yq rs).take k)) ((Xl ((Yq rs).take k)).length - 1) default).stamp).epoch),.int .i64 (((List.getD (Xl ((Yq rs).take k)) ((Xl ((Yq rs).take k)).length - 1) default).stamp).turn)] Z) Z) Z (Qm Z Z (Qf X4 Z) Z (Qm Z Z (Ql Xs Z (h1.part 1 [.int .i64 ((((Yq rs)[k]'hi1).stamp).epoch),.int .i64 ((((Yq rs)[k]'hi1).stamp).turn)] Z) Z) Z (Qm Z Z (R_eqlS (eq53 ((List.getD (Xl ((Yq rs).take k)) ((Xl ((Yq rs).take k)).length - 1) default).stamp) (((Yq rs)[k]'hi1).stamp)) eqg53 Z Z) Z (Qa (Qr Z Z) Z (Qn ⟨Z,Z,Z,Z,Z,Z,Z,Z,Z,Z,Z,Z,Z,Z,Z,Z,congrArg (fun b=>some (Value.bool b)) (show (decide (((List.getD (Xl ((Yq rs).take k)) ((Xl ((Yq rs).take k)).length - 1) default).stamp) = (((Yq rs)[k]'hi1).stamp))) = ((decide (0 < (((Xl ((Yq rs).take k)).length : Nat) : Int))) && (decide (((List.getD (Xl ((Yq rs).take k)) ((Xl ((Yq rs).take k)).length - 1) default).stamp) = (((Yq rs)[k]'hi1).stamp)))) by first | (rw [hg1] <;> rfl) | (simp [hg1];done) | (simp only [Qq] <;> simp)),trivial⟩ Z)))))))
    ·have hg1n : ¬ (Xl ((Yq rs).take k)).length > 0:=by first | (have h:=of_decide_eq_false hg1;omega) | (have h:=hg1;simp at h;omega)
     refine Qc Z Z Z Z (Qc Z Z Z Z (Qc Z Z Z Z (Qc Z Z Z Z (Qc Z Z Z Z (Qc Z Z Z Z (Qc Z Z Z Z (Qc Z Z Z Z (Qc Z Z Z Z (Qa (Qp Z Z) Z (Qn ⟨Z,Z,Z,Z,Z,Z,Z,Z,Z,Z,Z,Z,Z,Z,Z,Z,congrArg (fun b=>some (Value.bool b)) (show false = ((decide (0 < (((Xl ((Yq rs).take k)).length : Nat) : Int))) && (decide (((List.getD (Xl ((Yq rs).take k)) ((Xl ((Yq rs).take k)).length - 1) default).stamp) = (((Yq rs)[k]'hi1).stamp)))) by first | (rw [hg1] <;> rfl) | (simp [hg1];done) | (simp only [Qq] <;> simp)),trivial⟩ Z))))))))))
   rintro _ rfl
   refine Qd (Qt Z (fun hc3=>?_) (fun hc3=>?_))
   ·have hp3 : (Xl ((Yq rs).take k)).length - 1 < (Xl ((Yq rs).take k)).length:=by have h:=of_decide_eq_true ((Bool.and_eq_true_iff.1 hc3).1);omega
    refine Qi [true,true,true,true,true,true,true,true,true,false] Z Z (Qa (Qb Z) Z (Qa (Qb Z) Z (Qa (Gh Z Z (nat_sub (b:=1) (by omega) (by unfold maxLen;omega))) Z ?_)))
    have hi3 : ((Xl ((Yq rs).take k)).length - 1) < (Xl ((Yq rs).take k)).length:=(by first | assumption | omega | (simp only [List.length_set];first | assumption | omega) | (simp only [List.getElem_set_self,List.length_set];first | assumption | omega) | (simp only [Y3,Yj,List.length_set];first | assumption | omega) | (simp;done))
    refine Qa (Q5 (i:=((Xl ((Yq rs).take k)).length - 1)) Uz Z Z (Own.rd (by decide) ho) hi3) Z (Qa (Q7 Ap Z) Z (Qa (Qk Xi Z (((Own.rd (by decide) ho).get hi3).one 2 Z)) Z (Qa (Yu Z Z Z) Z ?_)))
    have hi4 : ((Xl ((Yq rs).take k)).length - 1) < (Xl ((Yq rs).take k)).length:=(by first | assumption | omega | (simp only [List.length_set];first | assumption | omega) | (simp only [List.getElem_set_self,List.length_set];first | assumption | omega) | (simp only [Y3,Yj,List.length_set];first | assumption | omega) | (simp;done))
    refine Qa (Q5 (i:=((Xl ((Yq rs).take k)).length - 1)) Uz Z Z (Own.rd (by decide) ho) hi4) Z (Qa (Q7 Ap Z) Z (Gb (α:=Count) (i:=((Xl ((Yq rs).take k)).length - 1)) (f:=2) (⟨(((Xl ((Yq rs).take k))[((Xl ((Yq rs).take k)).length - 1)]'hi4).stamp),IntKind.i64.wrap ((((Xl ((Yq rs).take k))[((Xl ((Yq rs).take k)).length - 1)]'hi3).n) + 1)⟩ : Count) Xi Z Z Z Z ho hi4 (by decide) Z (fun w8 m2 ho'=>?_)))
    have hq:=Own.blk ho
    replace ho:=ho'
    replace E:=E.step m2 (fun g hg=>by have:=hq g hg;omega);replace ho1:=ho1.mod m2 (fun g hg=>by have:=hq g hg;omega);replace h1:=h1.mod m2 (fun g hg=>by have:=hq g hg;omega)
    have z7:=m2.size
    clear hq
    refine Qd (Q4 (Yn (Qi [true,true] Z Z (Qa (Yu Z Z (Ku (by unfold maxLen;omega))) Z (Qa (Qb Z) Z (Qd (Q4 (Yg (k + 1,vo) (by simp;omega) ⟨Z,Z,Z,Z,Z,trivial⟩ ⟨E,(by omega),ho1,(by omega),Own.fin ho (by omega) (by omega) (by rw [Tb (by assumption),Ab hc2 hc3 hp3])⟩))))))))
   ·refine Qi [true,true,true,true,false,false,true] Z Z (Qa (Qb Z) Z (Qa (Qf X4 Z) Z (Qa (Ql Xs Z (h1.part 1 [.int .i64 ((((Yq rs)[k]'hi1).stamp).epoch),.int .i64 ((((Yq rs)[k]'hi1).stamp).turn)] Z) Z) Z (Qa (Kv (⟨(((Yq rs)[k]'hi1).stamp),1⟩ : Count) Z (fun _=>by kernel_rfl)) Z (Qz (vs:=[.agg (Enc.enc (⟨(((Yq rs)[k]'hi1).stamp),1⟩ : Count)).toArray]) (css:=[[.int .i64 (((⟨(((Yq rs)[k]'hi1).stamp),1⟩ : Count).stamp).epoch),.int .i64 (((⟨(((Yq rs)[k]'hi1).stamp),1⟩ : Count).stamp).turn),.int .i64 ((⟨(((Yq rs)[k]'hi1).stamp),1⟩ : Count).n)]]) Uz Z Z ⟨⟨Z,Z⟩,trivial⟩ Z Z (fun b2 w9 e5 s2 h2=>?_))))))
    replace h2 : Blk w9 b2 [.int .i64 (((⟨(((Yq rs)[k]'hi1).stamp),1⟩ : Count).stamp).epoch),.int .i64 (((⟨(((Yq rs)[k]'hi1).stamp),1⟩ : Count).stamp).turn),.int .i64 ((⟨(((Yq rs)[k]'hi1).stamp),1⟩ : Count).n)]:=h2
    have g_b2 : w.heap.size ≤ b2:=by have:=E.size;omega
    have y_b2:=h2.lt
    replace E:=E.trans e5;replace ho1:=ho1.ext e5;replace ho:=ho.ext e5;replace h1:=h1.ext e5
    have z8:=e5.size
    refine Xo Uz Z Z ho (Src.ofBlk h2 Z) Z (by simp only [Ya,List.length_append,List.length_cons,List.length_nil];simp only [Enc.sz];omega) (by decide) (by omega) (by omega) Z Z (fun v2 w10 m3 ho2=>?_)
    replace E:=E.step m3 (fun g hg=>by have:=Own.blk ho g hg;omega);replace ho1:=ho1.mod m3 (fun g hg=>by have:=Own.blk ho g hg;omega);replace h1:=h1.mod m3 (fun g hg=>by have:=Own.blk ho g hg;omega)
    have z9:=m3.size
    refine Qa (Qe Z) Z (Qd (Q4 (Yn (Qi [true,true] Z Z (Qa (Yu Z Z (Ku (by unfold maxLen;omega))) Z (Qa (Qb Z) Z (Qd (Q4 (Yg (k + 1,v2) (by simp;omega) ⟨Z,Z,Z,Z,Z,trivial⟩ ⟨E,(by omega),ho1,(by omega),Own.fin ho2 (by omega) (by omega) (by rw [Tb (by assumption),Cp hc2 hc3];first | rfl | (simp [Enc.enc];done))⟩)))))))))
 ·have hc1n : ¬ k < (Yq rs).length:=by first | (have h:=of_decide_eq_false hc1;omega) | (have h:=hc1;simp at h;omega)
  refine Y5 (Yc (Q8 ?_))
  refine Qh (Qi [true,true] Z Z (Qa (Qb Z) Z (Qa (Qe Z) Z (Qd (Qx (Qu Z Z E ?_))))))
  exact Own.fin ho (by have:=E.size;omega) (by omega) (by rw [List.take_of_length_le (by omega)])

set_option maxRecDepth 20000 in
theorem c_CountsAt (cx : List Value) (x : Worker) (w : World) (hx : Dat.R w 0 w.heap.size cx x) (hb : (U6 x).length ≤ 1048576) : Ct Tryz.prog 9 [.agg cx.toArray] w (fun v w'=>Own w' w.heap.size w'.heap.size 3 v (List.flatMap (Enc.enc (α:=Count)) (Xl (Yq (U6 x))))):=by
 have hbl:=Vz x
 refine Yp Tryz.func9 Z Tryz.ntmps9 Z ?_
 obtain ⟨o1,o2,o3,o4,o5,o6,o7,o8,rfl,hd1,hd2,hd3,hd4,hd5,hd6,hd7,hd8⟩:=Worker.op hx
 refine Yb [(0,.agg [o1,o2,o3,o4,o5,o6,o7,o8].toArray)] ⟨Z,trivial⟩ ?_
 have E : Ext w w:=Ext.refl w
 refine Qh (Qi [false,true] Z Z (Xb Z Z (fun b1 w1 e1 s1 h1=>?_)))
 have g_b1 : w.heap.size ≤ b1:=by have:=E.size;omega
 have y_b1:=h1.lt
 replace E:=E.trans e1
 have z1:=e1.size
 refine Qa (Qe Z) Z (Qd (Qh (Ga Xd [0,3,6,10] [(0,true),(1,true),(3,true),(4,true),(6,true),(7,true),(2,false),(5,false),(8,false),(9,false),(10,true)] [] (by decide +kernel) Z Z (fun w'=>Ext w w' ∧ w1.heap.size ≤ w'.heap.size ∧ Blk w' b1 ([o1,o2,o3,o4,o5,o6,o7,o8])) (fun w2 e2=>?_))))
 replace E:=E.trans e2;replace h1:=h1.ext e2
 have z2:=e2.size
 refine ⟨⟨E,(by omega),h1⟩,?_⟩
 refine Kw Z (fun wX=>Qf Kf Z) Z ?_
 refine U2 rfl (fun wX hX=>by obtain ⟨E,zX,h1⟩:=hX;exact Qk Xv rfl (h1.one 0 rfl)) rfl ?_
 refine Kw Z (fun wX=>Qf Ui Z) Z ?_
 refine U2 rfl (fun wX hX=>by obtain ⟨E,zX,h1⟩:=hX;exact Qk Xv rfl (h1.one 1 rfl)) rfl ?_
 refine Kw Z (fun wX=>Qf X5 Z) Z ?_
 refine U2 rfl (fun wX hX=>by obtain ⟨E,zX,h1⟩:=hX;exact Qk Xv rfl (h1.one 2 rfl)) rfl ?_
 refine K7 Z ?_
 refine Qw Tryz.call34 Z (c_copyRecords o1 x.queue _ (hd1.rd.ext E) (by first | omega | (simp only [Q1];omega) | (rw [Q1];done) | (simp only [Q1];done))) Z (fun v1 w3 e3 ho1=>?_)
 have g_ho1 : w.heap.size ≤ w2.heap.size:=E.size
 replace E:=E.trans e3;replace h1:=h1.ext e3
 have z3:=e3.size
 refine Xx ⟨E,(by omega),h1⟩ ?_
 refine K7 Z ?_
 refine Xo Xp Z Z ho1 (RdS.src (hd2.rd.ext E)) (Xm _) (by simp only [Ya,List.length_append,List.length_nil,List.nil_append];simp only [Enc.sz];omega) (by decide) (by omega) (by omega) Z Z (fun v2 w4 m1 ho2=>?_)
 replace E:=E.step m1 (fun g hg=>by have:=Own.blk ho1 g hg;omega);replace h1:=h1.mod m1 (fun g hg=>by have:=Own.blk ho1 g hg;omega)
 have z4:=m1.size
 replace ho2 : Own w4 w2.heap.size w4.heap.size 5 v2 (List.flatMap (Enc.enc (α:=Record)) (x.queue ++ x.staged)):=by simpa only [List.flatMap_append,List.flatMap_nil,List.nil_append] using ho2
 refine Xx ⟨E,(by omega),h1⟩ ?_
 refine K7 Z ?_
 refine Xo Xp Z Z ho2 (RdS.src (hd3.rd.ext E)) (Xm _) (by simp only [Ya,List.length_append,List.length_nil,List.nil_append];simp only [Enc.sz];omega) (by decide) (by omega) (by omega) Z Z (fun v3 w5 m2 ho3=>?_)
 replace E:=E.step m2 (fun g hg=>by have:=Own.blk ho2 g hg;omega);replace h1:=h1.mod m2 (fun g hg=>by have:=Own.blk ho2 g hg;omega)
 have z5:=m2.size
 replace ho3 : Own w5 w2.heap.size w5.heap.size 5 v3 (List.flatMap (Enc.enc (α:=Record)) ((x.queue ++ x.staged) ++ x.inputs)):=by simpa only [List.flatMap_append,List.flatMap_nil,List.nil_append] using ho3
 refine Xx ⟨E,(by omega),h1⟩ ?_
 refine K7 Z ?_
 refine Qw Tryz.call33 Z (c_CountsOfRecords v3 ((x.queue ++ x.staged) ++ x.inputs) _ (Own.rd (by decide) ho3) (by simp only [List.length_append,List.nil_append,List.append_assoc];omega)) Z (fun v4 w6 e4 ho4=>?_)
 have g_ho4 : w.heap.size ≤ w5.heap.size:=E.size
 replace E:=E.trans e4;replace h1:=h1.ext e4;replace ho3:=ho3.ext e4
 have z6:=e4.size
 refine Xx ⟨E,(by omega),h1⟩ ?_
 refine Kw Z (fun wX=>Qe Z) Z ?_
 refine Gc ?_
 refine Qd (Qx (Qu Z Z E ?_))
 exact Own.fin ho4 (by have:=E.size;omega) (by omega) Z

set_option maxRecDepth 20000 in
theorem s_CountsAt (cx : List Value) (x : Worker) (w : World) (hx : Dat.R w 0 w.heap.size cx x) (hb : (U6 x).length ≤ 1048576) : Ct Tryz.prog 10 [.agg cx.toArray] w (fun v w'=>Own w' w.heap.size w'.heap.size 3 v (List.flatMap (Enc.enc (α:=Count)) (Vd (U6 x)))):=by
 have hbl:=Vz x
 refine Yp Tryz.func10 Z Tryz.ntmps10 Z ?_
 obtain ⟨o1,o2,o3,o4,o5,o6,o7,o8,rfl,hd1,hd2,hd3,hd4,hd5,hd6,hd7,hd8⟩:=Worker.op hx
 refine Yb [(0,.agg [o1,o2,o3,o4,o5,o6,o7,o8].toArray)] ⟨Z,trivial⟩ ?_
 have E : Ext w w:=Ext.refl w
 refine Qh (Qi [false,true] Z Z (Xb Z Z (fun b1 w1 e1 s1 h1=>?_)))
 have g_b1 : w.heap.size ≤ b1:=by have:=E.size;omega
 have y_b1:=h1.lt
 replace E:=E.trans e1
 have z1:=e1.size
 refine Qa (Qe Z) Z (Qd (Qh (Ga Xd [1,4,7,11] [(1,true),(2,true),(4,true),(5,true),(7,true),(8,true),(0,false),(3,false),(6,false),(9,false),(10,false),(11,true)] [] (by decide +kernel) Z Z (fun w'=>Ext w w' ∧ w1.heap.size ≤ w'.heap.size ∧ Blk w' b1 ([o1,o2,o3,o4,o5,o6,o7,o8])) (fun w2 e2=>?_))))
 replace E:=E.trans e2;replace h1:=h1.ext e2
 have z2:=e2.size
 refine ⟨⟨E,(by omega),h1⟩,?_⟩
 refine Kw Z (fun wX=>Qf Kf Z) Z ?_
 refine U2 rfl (fun wX hX=>by obtain ⟨E,zX,h1⟩:=hX;exact Qk Xv rfl (h1.one 0 rfl)) rfl ?_
 refine Kw Z (fun wX=>Qf Ui Z) Z ?_
 refine U2 rfl (fun wX hX=>by obtain ⟨E,zX,h1⟩:=hX;exact Qk Xv rfl (h1.one 1 rfl)) rfl ?_
 refine Kw Z (fun wX=>Qf X5 Z) Z ?_
 refine U2 rfl (fun wX hX=>by obtain ⟨E,zX,h1⟩:=hX;exact Qk Xv rfl (h1.one 2 rfl)) rfl ?_
 refine K7 Z ?_
 refine Qz (vs:=[]) (css:=[]) Xp Z Z trivial Z Z (fun b2 w3 e3 s2 h2=>?_)
 replace h2 : Blk w3 b2 []:=h2
 have g_b2 : w.heap.size ≤ b2:=by have:=E.size;omega
 have y_b2:=h2.lt
 replace E:=E.trans e3;replace h1:=h1.ext e3
 have z3:=e3.size
 refine Xx ⟨E,(by omega),h1⟩ ?_
 refine K7 Z ?_
 refine Xo Xp Z Z (Own.ofBlk (lo:=b2) (hi:=b2 + 1) (sz:=5) h2 (Nat.le_refl _) (Nat.lt_succ_self _) (by simp) (by simp [maxLen])) (RdS.src (hd1.rd.ext E)) (Xm _) (by simp only [Ya,List.length_append,List.length_nil,List.nil_append];simp only [Enc.sz];omega) (by decide) (by omega) (by omega) Z Z (fun v1 w4 m1 ho1=>?_)
 replace E:=E.step m1 (fun g hg=>by have:=Own.blk (Own.ofBlk (lo:=b2) (hi:=b2 + 1) (sz:=5) h2 (Nat.le_refl _) (Nat.lt_succ_self _) (by simp) (by simp [maxLen])) g hg;omega);replace h1:=h1.mod m1 (fun g hg=>by have:=Own.blk (Own.ofBlk (lo:=b2) (hi:=b2 + 1) (sz:=5) h2 (Nat.le_refl _) (Nat.lt_succ_self _) (by simp) (by simp [maxLen])) g hg;omega)
 have z4:=m1.size
 replace ho1 : Own w4 b2 w4.heap.size 5 v1 (List.flatMap (Enc.enc (α:=Record)) (x.queue)):=by simpa only [List.flatMap_append,List.flatMap_nil,List.nil_append] using ho1
 refine Xx ⟨E,(by omega),h1⟩ ?_
 refine K7 Z ?_
 refine Xo Xp Z Z ho1 (RdS.src (hd2.rd.ext E)) (Xm _) (by simp only [Ya,List.length_append,List.length_nil,List.nil_append];simp only [Enc.sz];omega) (by decide) (by omega) (by omega) Z Z (fun v2 w5 m2 ho2=>?_)
 replace E:=E.step m2 (fun g hg=>by have:=Own.blk ho1 g hg;omega);replace h1:=h1.mod m2 (fun g hg=>by have:=Own.blk ho1 g hg;omega)
 have z5:=m2.size
 replace ho2 : Own w5 b2 w5.heap.size 5 v2 (List.flatMap (Enc.enc (α:=Record)) (x.queue ++ x.staged)):=by simpa only [List.flatMap_append,List.flatMap_nil,List.nil_append] using ho2
 refine Xx ⟨E,(by omega),h1⟩ ?_
 refine K7 Z ?_
 refine Xo Xp Z Z ho2 (RdS.src (hd3.rd.ext E)) (Xm _) (by simp only [Ya,List.length_append,List.length_nil,List.nil_append];simp only [Enc.sz];omega) (by decide) (by omega) (by omega) Z Z (fun v3 w6 m3 ho3=>?_)
 replace E:=E.step m3 (fun g hg=>by have:=Own.blk ho2 g hg;omega);replace h1:=h1.mod m3 (fun g hg=>by have:=Own.blk ho2 g hg;omega)
 have z6:=m3.size
 replace ho3 : Own w6 b2 w6.heap.size 5 v3 (List.flatMap (Enc.enc (α:=Record)) ((x.queue ++ x.staged) ++ x.inputs)):=by simpa only [List.flatMap_append,List.flatMap_nil,List.nil_append] using ho3
 refine Xx ⟨E,(by omega),h1⟩ ?_
 refine K7 Z ?_
 refine Qw Tryz.call35 Z (s_CountsOfRecords v3 ((x.queue ++ x.staged) ++ x.inputs) _ (Own.rd (by decide) ho3) (by simp only [List.length_append,List.nil_append,List.append_assoc];omega)) Z (fun v4 w7 e4 ho4=>?_)
 have g_ho4 : w.heap.size ≤ w6.heap.size:=E.size
 replace E:=E.trans e4;replace h1:=h1.ext e4;replace ho3:=ho3.ext e4
 have z7:=e4.size
 refine Xx ⟨E,(by omega),h1⟩ ?_
 refine Kw Z (fun wX=>Qe Z) Z ?_
 refine Gc ?_
 refine Qd (Qx (Qu Z Z E ?_))
 exact Own.fin ho4 (by have:=E.size;omega) (by omega) Z

set_option maxHeartbeats 4000000 in
set_option maxRecDepth 20000 in
theorem s_l05List (lo : Nat) (vb : Value) (bs : List Byt) (w : World) (hcu : CurO w lo vb bs) (hbs : RdD w 0 lo vb bs) : CtR Tryz.prog 42 [.pointer (some ⟨lo,0,none⟩)] w lo (lo + 1) (fun v w'=>∃ (dr0 : List Record),dr0.length ≤ 6 ∧ CurO w' lo vb bs ∧ Own w' w.heap.size w'.heap.size 5 v (List.flatMap (Enc.enc (α:=Record)) dr0)):=by
 have y_lo:=CurO.lt hcu
 refine Vb Tryz.func42 Z Tryz.ntmps42 Z ?_
 refine Yb [(0,.pointer (some ⟨lo,0,none⟩))] ⟨Z,trivial⟩ ?_
 have E : ModR w w lo (lo + 1):=ModR.refl w lo (lo + 1)
 refine Qh (Qi [true] Z Z (Qa (Qe Z) Z (Qd (Qh (Qi [false,true] Z Z (Qz (vs:=[]) (css:=[]) Xp Z Z trivial Z Z (fun b1 w1 e1 s1 h1=>?_)))))))
 replace h1 : Blk w1 b1 []:=h1
 have g_b1 : w.heap.size ≤ b1:=by have:=E.size;omega
 have y_b1:=h1.lt
 replace E:=E.ext e1;replace hcu:=hcu.ext e1
 have z1:=e1.size
 refine Qa (Qe Z) Z (Qd (Qh (Qh (Qi [true] Z Z (Qa (Qe Z) Z (Qd (Q2 (Y6 (fun (xq : Nat × Value × List Record)=>let ⟨k,vo,ls⟩:=xq;[(0,.pointer (some ⟨lo,0,none⟩)),(2,.slice none 0 0),(3,vo),(4,.int .i64 ((k : Nat) : Int))]) (fun (xq : Nat × Value × List Record) w'=>let ⟨k,vo,ls⟩:=xq;ModR w w' lo (lo + 1) ∧ w1.heap.size ≤ w'.heap.size ∧ CurO w' lo vb bs ∧ k ≤ 6 ∧ ls.length ≤ k ∧ Own w' w.heap.size w'.heap.size 5 vo (List.flatMap (Enc.enc (α:=Record)) ls)) (fun (xq : Nat × Value × List Record)=>let ⟨k,vo,ls⟩:=xq;6 - k) (0,.slice (some ⟨b1,0,none⟩) 0 0,[]) ⟨Z,Z,Z,Z,trivial⟩ ⟨E,Nat.le_refl _,hcu,Nat.zero_le _,Nat.le_refl _,Own.fin (Own.ofBlk (lo:=b1) (hi:=b1 + 1) (sz:=5) h1 (Nat.le_refl _) (Nat.lt_succ_self _) (by simp) (by simp [maxLen])) (by omega) (by omega) Z⟩ ?_))))))))
 clear E hcu h1
 rintro ⟨k,vo,ls⟩ w2 ⟨E,z2,hcu,hk,hls,ho⟩
 refine Yb [(0,.pointer (some ⟨lo,0,none⟩)),(2,.slice none 0 0),(3,vo),(4,.int .i64 ((k : Nat) : Int))] ⟨Z,Z,Z,Z,trivial⟩ ?_
 refine Qh (Qh (Qi [true,true,false,true] Z Z (Qa (Qb Z) Z (Qa (Qb Z) Z (Yf Tryz.call66 Z Z (s_l01Below lo vb bs 7 _ hcu (RdD.modR hbs E (.inl (Nat.le_refl _)))) Z (fun _ w3 e2 hv=>?_))))))
 obtain ⟨dx1,q1,q2,hcu',hv⟩:=hv
 replace hcu:=hcu'
 subst hv
 replace E:=E.trans e2 (by omega) (by omega);replace ho:=ho.modR e2 (by omega)
 have z3:=e2.size
 refine Qa (Xe Z Z) Z (Qd (Qt Z (fun hc1=>?_) (fun hc1=>?_)))
 ·have hc1n : k < dx1:=by first | (have h:=of_decide_eq_true hc1;omega) | (have h:=hc1;simp at h;omega)
  refine Qy (Qh (Q2 (Qh (Qi [true,true,true,true,true,false,true] Z Z (Qa (Qb Z) Z (Qa (Ye Tryz.underlying27 Z (Own.len (by decide) ho)) Z (Qa (U1 Z Z) Z (Qa (Qb Z) Z (J_cutB 3 (fun bq1=>[(0,.pointer (some ⟨lo,0,none⟩)),(2,.slice none 0 0),(3,vo),(4,.int .i64 ((k : Nat) : Int)),(6,.int .i64 ((k : Nat) : Int)),(7,.pointer (some ⟨lo,0,none⟩)),(8,.int .i64 ((dx1 : Nat) : Int)),(9,.bool (decide (((k : Nat) : Int) < ((dx1 : Nat) : Int)))),(18,.bool bq1)]) (fun bq1 w'=>(bq1 = true → (decide (0 < ((ls.length : Nat) : Int))) = true) ∧ ModR w w' lo (lo + 1) ∧ w3.heap.size ≤ w'.heap.size ∧ CurO w' lo vb bs ∧ Own w' w.heap.size w2.heap.size 5 vo (List.flatMap (Enc.enc (α:=Record)) ls)) ?_ ?_)))))))))
  ·refine Yz (gd:=15) Z Z (fun hg1=>?_) (fun hg1=>?_)
   ·have hg1n : ls.length > 0:=by first | (have h:=of_decide_eq_true hg1;omega) | (have h:=hg1;simp at h;omega)
    refine Qm Z Z (Qb Z) Z ?_
    refine Xa Z Z ?_
    refine Yf Tryz.call40 Z Z (s_l01Once lo vb bs 5 _ hcu (RdD.modR hbs E (.inl (Nat.le_refl _)))) Z (fun _ w5 e3 hv=>?_)
    obtain ⟨dx2,hcu',hv⟩:=hv
    replace hcu:=hcu'
    subst hv
    replace E:=E.trans e3 (by omega) (by omega);replace ho:=ho.modR e3 (by omega)
    have z4:=e3.size
    refine Qa (Qr Z Z) Z (Bo dx2 ⟨Z,Z,Z,Z,Z,Z,Z,Z,Z,trivial⟩ ⟨(fun _=>hg1),E,(by omega),hcu,ho⟩)
   ·have hg1n : ¬ ls.length > 0:=by first | (have h:=of_decide_eq_false hg1;omega) | (have h:=hg1;simp at h;omega)
    refine Qc Z Z Z Z ?_
    refine Q3 Z Z Z Z ?_
    refine Qa (Qp Z Z) Z (Bo false ⟨Z,Z,Z,Z,Z,Z,Z,Z,Z,trivial⟩ ⟨(fun h=>by cases h),E,(by omega),hcu,ho⟩)
  clear E hcu ho
  rintro bq1 w4 ⟨hbq1,E,z5,hcu,ho⟩
  refine Qd (Qt Z (fun hc2=>?_) (fun hc2=>?_))
  ·have hc2i:=hbq1 hc2
   have hc2in : ls.length > 0:=by first | (have h:=of_decide_eq_true hc2i;omega) | (have h:=hc2i;simp at h;omega)
   refine Qi [true,true,true,true,true,false,true,true,false,false,true] Z Z (Qa (Qb Z) Z (Qa (Qb Z) Z (Qa (Qb Z) Z (Qa (Qb Z) Z (Qa (Ye Tryz.underlying27 Z (Own.len (by decide) ho)) Z (Yf Tryz.call66 Z Z (s_l01Below lo vb bs ((ls.length : Nat) : Int) _ hcu (RdD.modR hbs E (.inl (Nat.le_refl _)))) Z (fun _ w6 e4 hv=>?_)))))))
   obtain ⟨dx3,q3,q4,hcu',hv⟩:=hv
   replace hcu:=hcu'
   subst hv
   replace E:=E.trans e4 (by omega) (by omega);replace ho:=ho.modR e4 (by omega)
   have z6:=e4.size
   have hi1 : dx3 < ls.length:=(by first | assumption | omega | (simp only [List.length_set];first | assumption | omega) | (simp only [List.getElem_set_self,List.length_set];first | assumption | omega) | (simp only [Y3,Yj,List.length_set];first | assumption | omega) | (simp;done))
   refine Qa (Q5 (i:=dx3) Xp Z Z (Own.rd (by decide) ho) hi1) Z (Qa (Ql Xq Z ((Own.rd (by decide) ho).get hi1) Z) Z (Qz (vs:=[.agg (Enc.enc (ls[dx3]'hi1)).toArray]) (css:=[[.int .i64 ((ls[dx3]'hi1).op),.int .i64 (((ls[dx3]'hi1).stamp).epoch),.int .i64 (((ls[dx3]'hi1).stamp).turn),.int .i64 ((ls[dx3]'hi1).key),.int .i64 ((ls[dx3]'hi1).val)]]) Xp Z Z ⟨⟨Z,Z⟩,trivial⟩ Z Z (fun b2 w7 e5 s2 h2=>?_)))
   replace h2 : Blk w7 b2 [.int .i64 ((ls[dx3]'hi1).op),.int .i64 (((ls[dx3]'hi1).stamp).epoch),.int .i64 (((ls[dx3]'hi1).stamp).turn),.int .i64 ((ls[dx3]'hi1).key),.int .i64 ((ls[dx3]'hi1).val)]:=h2
   have g_b2 : w.heap.size ≤ b2:=by have:=E.size;omega
   have y_b2:=h2.lt
   replace E:=E.ext e5;replace hcu:=hcu.ext e5;replace ho:=ho.ext e5
   have z7:=e5.size
   refine Xo Xp Z Z ho (Src.ofBlk h2 Z) Z (by simp only [Ya,List.length_cons,List.length_nil];simp only [Enc.sz];omega) (by decide) (by omega) (by omega) Z Z (fun v1 w8 m1 ho1=>?_)
   replace E:=E.mod m1 (fun g hg=>by have:=Own.blk ho g hg;omega);replace hcu:=hcu.mod m1 (fun g hg=>by have:=Own.blk ho g hg;omega)
   have z8:=m1.size
   refine Qa (Qe Z) Z (Qd (Q4 (Yn (Qi [true,true,true] Z Z (Qa (Qb Z) Z (Qa (Yu Z Z (Ku (by unfold maxLen;omega))) Z (Qa (Qe Z) Z (Qd (Q4 (Yg (k + 1,v1,(ls ++ [(ls[dx3]'hi1)])) (by simp;omega) ⟨Z,Z,Z,Z,trivial⟩ ⟨E,(by omega),hcu,(by omega),(by simp;omega),Own.fin ho1 (by omega) (by omega) (by first | (simp [*];done) | (simp [Enc.enc];done))⟩))))))))))
  ·refine Qi [true,true,false,false,false,true] Z Z (Qa (Qb Z) Z (Qa (Qb Z) Z (Yf Tryz.call68 Z Z (s_l05Any lo vb bs _ hcu (RdD.modR hbs E (.inl (Nat.le_refl _)))) Z (fun _ w9 e6 hv=>?_))))
   obtain ⟨dx4,hcu',hv⟩:=hv
   replace hcu:=hcu'
   subst hv
   replace E:=E.trans e6 (by omega) (by omega);replace ho:=ho.modR e6 (by omega)
   have z9:=e6.size
   refine Qz (vs:=[.agg (Enc.enc dx4).toArray]) (css:=[[.int .i64 dx4.op,.int .i64 dx4.stamp.epoch,.int .i64 dx4.stamp.turn,.int .i64 dx4.key,.int .i64 dx4.val]]) Xp Z Z ⟨⟨Z,Z⟩,trivial⟩ Z Z (fun b3 w10 e7 s3 h3=>?_)
   replace h3 : Blk w10 b3 [.int .i64 dx4.op,.int .i64 dx4.stamp.epoch,.int .i64 dx4.stamp.turn,.int .i64 dx4.key,.int .i64 dx4.val]:=h3
   have g_b3 : w.heap.size ≤ b3:=by have:=E.size;omega
   have y_b3:=h3.lt
   replace E:=E.ext e7;replace hcu:=hcu.ext e7;replace ho:=ho.ext e7
   have z10:=e7.size
   refine Xo Xp Z Z ho (Src.ofBlk h3 Z) Z (by simp only [Ya,List.length_cons,List.length_nil];simp only [Enc.sz];omega) (by decide) (by omega) (by omega) Z Z (fun v2 w11 m2 ho2=>?_)
   replace E:=E.mod m2 (fun g hg=>by have:=Own.blk ho g hg;omega);replace hcu:=hcu.mod m2 (fun g hg=>by have:=Own.blk ho g hg;omega)
   have z11:=m2.size
   refine Qa (Qe Z) Z (Qd (Q4 (Yn (Qi [true,true,true] Z Z (Qa (Qb Z) Z (Qa (Yu Z Z (Ku (by unfold maxLen;omega))) Z (Qa (Qe Z) Z (Qd (Q4 (Yg (k + 1,v2,(ls ++ [dx4])) (by simp;omega) ⟨Z,Z,Z,Z,trivial⟩ ⟨E,(by omega),hcu,(by omega),(by simp;omega),Own.fin ho2 (by omega) (by omega) (by first | (simp [*];done) | (simp [Enc.enc];done))⟩))))))))))
 ·have hc1n : ¬ k < dx1:=by first | (have h:=of_decide_eq_false hc1;omega) | (have h:=hc1;simp at h;omega)
  refine Y5 (Yc (Q8 ?_))
  refine Qh (Qi [true,true] Z Z (Qa (Qb Z) Z (Qa (Qe Z) Z (Qd (Qx (Qu Z Z E ?_))))))
  exact ⟨ls,(by omega),hcu,Own.fin ho (by have:=E.size;omega) (by omega) (by first | (simp [*];done) | (simp [*];rfl))⟩

set_option maxRecDepth 20000 in
theorem s_DrawWorkerOk (vcode : Value) (code : List Byt) (w : World) (hcode : RdS w vcode code) : Ct Tryz.prog 5 [vcode] w (fun v w'=>∃ (dr0 : Graph) (dr1 : Worker),smG dr0 ∧ Q6 dr1 ≤ 200 ∧ ∃ c0 c1,v = .tuple [.agg c0.toArray,.agg c1.toArray].toArray ∧ Dat.R w' w.heap.size w'.heap.size c0 dr0 ∧ Dat.R w' w.heap.size w'.heap.size c1 dr1):=by
 refine Yp Tryz.func5 Z Tryz.ntmps5 Z ?_
 refine Yb [(0,vcode)] ⟨Z,trivial⟩ ?_
 have E : Ext w w:=Ext.refl w
 refine Qh (Qi [false,false] Z Z (Yd Xz Z (fun b1 w1 e1 s1 h1=>?_)))
 have g_b1 : w.heap.size ≤ b1:=by have:=E.size;omega
 have y_b1:=h1.lt
 replace E:=E.trans e1
 have z1:=e1.size
 refine Yd Yh Z (fun b2 w2 e2 s2 h2=>?_)
 have g_b2 : w.heap.size ≤ b2:=by have:=E.size;omega
 have y_b2:=h2.lt
 replace E:=E.trans e2;replace h1:=h1.ext e2
 have z2:=e2.size
 refine Qd (Qh (Qi [true,false,true,true,false,false] Z Z (Qa (Qb Z) Z (Qw Tryz.call25 Z (s_l12Case vcode code _ (hcode.ext E)) Z (fun _ w3 e3 ho1=>?_)))))
 obtain ⟨dx1,dx2,q1,q2,ho1⟩:=ho1
 obtain ⟨_,_,rfl,ho2,ho3⟩:=ho1
 have g_ho1 : w.heap.size ≤ w2.heap.size:=E.size
 replace E:=E.trans e3;replace h1:=h1.ext e3;replace h2:=h2.ext e3
 have z3:=e3.size
 obtain ⟨o1,rfl,hd1⟩:=Graph.op ho2
 obtain ⟨o2,o3,o4,o5,o6,o7,o8,o9,rfl,hd2,hd3,hd4,hd5,hd6,hd7,hd8,hd9⟩:=Worker.op ho3
 refine Qa (Ym Z Z) Z (Qa (Ym Z Z) Z (Qs (cs':=[o1,.int .i64 dx1.workers,.int .i64 dx1.cap]) Xz Z Z Z (Qg (RdD.one hd1) (Qg Z (Qg Z Z))) h1 (Nat.le_of_ble_eq_true Z) Z (fun w4 m1 h1'=>?_)))
 replace h1:=h1'
 replace E:=E.step m1 (fun g hg=>by cases hg;omega);replace h2:=h2.mod m1 (fun g hg=>by cases hg;omega);replace hd1:=hd1.mod m1 (fun g hg=>by cases hg;omega);replace hd2:=hd2.mod m1 (fun g hg=>by cases hg;omega);replace hd3:=hd3.mod m1 (fun g hg=>by cases hg;omega);replace hd4:=hd4.mod m1 (fun g hg=>by cases hg;omega);replace hd5:=hd5.mod m1 (fun g hg=>by cases hg;omega);replace hd6:=hd6.mod m1 (fun g hg=>by cases hg;omega);replace hd7:=hd7.mod m1 (fun g hg=>by cases hg;omega);replace hd8:=hd8.mod m1 (fun g hg=>by cases hg;omega);replace hd9:=hd9.mod m1 (fun g hg=>by cases hg;omega)
 have z4:=m1.size
 refine Qs (cs':=[o2,o3,o4,o5,o6,o7,o8,o9]) Yh Z Z Z (Qg (RdD.one hd2) (Qg (RdD.one hd3) (Qg (RdD.one hd4) (Qg (RdD.one hd5) (Qg (RdD.one hd6) (Qg (RdD.one hd7) (Qg (RdD.one hd8) (Qg (RdD.one hd9) Z)))))))) h2 (Nat.le_of_ble_eq_true Z) Z (fun w5 m2 h2'=>?_)
 replace h2:=h2'
 replace E:=E.step m2 (fun g hg=>by cases hg;omega);replace h1:=h1.mod m2 (fun g hg=>by cases hg;omega);replace hd1:=hd1.mod m2 (fun g hg=>by cases hg;omega);replace hd2:=hd2.mod m2 (fun g hg=>by cases hg;omega);replace hd3:=hd3.mod m2 (fun g hg=>by cases hg;omega);replace hd4:=hd4.mod m2 (fun g hg=>by cases hg;omega);replace hd5:=hd5.mod m2 (fun g hg=>by cases hg;omega);replace hd6:=hd6.mod m2 (fun g hg=>by cases hg;omega);replace hd7:=hd7.mod m2 (fun g hg=>by cases hg;omega);replace hd8:=hd8.mod m2 (fun g hg=>by cases hg;omega);replace hd9:=hd9.mod m2 (fun g hg=>by cases hg;omega)
 have z5:=m2.size
 refine Qd (Qx (Y1 (l:=[.cell 2 26,.cell 3 33]) (vs:=[.agg [o1,.int .i64 dx1.workers,.int .i64 dx1.cap].toArray,.agg [o2,o3,o4,o5,o6,o7,o8,o9].toArray]) Z ⟨.cell Z (Qv Xz h1.at Z),.cell Z (Qv Yh h2.at Z),trivial⟩ Z E ?_))
 exact ⟨dx1,dx2,(by assumption),(by assumption),⟨_,_,Z,(Graph.mkR _ (RdD.widen hd1 (by have:=E.size;omega) (by omega))),(Worker.mkR _ (RdD.widen hd2 (by have:=E.size;omega) (by omega)) (RdD.widen hd3 (by have:=E.size;omega) (by omega)) (RdD.widen hd4 (by have:=E.size;omega) (by omega)) (RdD.widen hd5 (by have:=E.size;omega) (by omega)) (RdD.widen hd6 (by have:=E.size;omega) (by omega)) (RdD.widen hd7 (by have:=E.size;omega) (by omega)) (RdD.widen hd8 (by have:=E.size;omega) (by omega)) (RdD.widen hd9 (by have:=E.size;omega) (by omega)))⟩⟩

set_option maxRecDepth 20000 in
theorem s_DrawPassiveAt (vcode : Value) (code : List Byt) (w : World) (hcode : RdS w vcode code) : Ct Tryz.prog 11 [vcode] w (fun v w'=>∃ (dr0 : Worker) (dr1 : Int),Q6 dr0 ≤ 200 ∧ ∃ c0,v = .tuple [.agg c0.toArray,.int .i64 dr1].toArray ∧ Dat.R w' w.heap.size w'.heap.size c0 dr0):=by
 refine Yp Tryz.func11 Z Tryz.ntmps11 Z ?_
 refine Yb [(0,vcode)] ⟨Z,trivial⟩ ?_
 have E : Ext w w:=Ext.refl w
 refine Qh (Qi [false,true] Z Z (Yd Yh Z (fun b1 w1 e1 s1 h1=>?_)))
 have g_b1 : w.heap.size ≤ b1:=by have:=E.size;omega
 have y_b1:=h1.lt
 replace E:=E.trans e1
 have z1:=e1.size
 refine Qa (Qe Z) Z (Qd (Qh (Qi [true,false,true,true,false,true] Z Z (Qa (Qb Z) Z (Qw Tryz.call36 Z (s_l12At vcode code _ (hcode.ext E)) Z (fun _ w2 e2 ho1=>?_))))))
 obtain ⟨dx1,dx2,q1,ho1⟩:=ho1
 obtain ⟨_,rfl,ho2⟩:=ho1
 have g_ho1 : w.heap.size ≤ w1.heap.size:=E.size
 replace E:=E.trans e2;replace h1:=h1.ext e2
 have z2:=e2.size
 obtain ⟨o1,o2,o3,o4,o5,o6,o7,o8,rfl,hd1,hd2,hd3,hd4,hd5,hd6,hd7,hd8⟩:=Worker.op ho2
 refine Qa (Ym Z Z) Z (Qa (Ym Z Z) Z (Qs (cs':=[o1,o2,o3,o4,o5,o6,o7,o8]) Yh Z Z Z (Qg (RdD.one hd1) (Qg (RdD.one hd2) (Qg (RdD.one hd3) (Qg (RdD.one hd4) (Qg (RdD.one hd5) (Qg (RdD.one hd6) (Qg (RdD.one hd7) (Qg (RdD.one hd8) Z)))))))) h1 (Nat.le_of_ble_eq_true Z) Z (fun w3 m1 h1'=>?_)))
 replace h1:=h1'
 replace E:=E.step m1 (fun g hg=>by cases hg;omega);replace hd1:=hd1.mod m1 (fun g hg=>by cases hg;omega);replace hd2:=hd2.mod m1 (fun g hg=>by cases hg;omega);replace hd3:=hd3.mod m1 (fun g hg=>by cases hg;omega);replace hd4:=hd4.mod m1 (fun g hg=>by cases hg;omega);replace hd5:=hd5.mod m1 (fun g hg=>by cases hg;omega);replace hd6:=hd6.mod m1 (fun g hg=>by cases hg;omega);replace hd7:=hd7.mod m1 (fun g hg=>by cases hg;omega);replace hd8:=hd8.mod m1 (fun g hg=>by cases hg;omega)
 have z3:=m1.size
 refine Qa (Qe Z) Z (Qd (Qx (Y1 (l:=[.cell 2 33,.tmp 3]) (vs:=[.agg [o1,o2,o3,o4,o5,o6,o7,o8].toArray,.int .i64 dx2]) Z ⟨.cell Z (Qv Yh h1.at Z),.tmp Z,trivial⟩ Z E ?_)))
 exact ⟨dx1,dx2,(by assumption),⟨_,Z,(Worker.mkR _ (RdD.widen hd1 (by have:=E.size;omega) (by omega)) (RdD.widen hd2 (by have:=E.size;omega) (by omega)) (RdD.widen hd3 (by have:=E.size;omega) (by omega)) (RdD.widen hd4 (by have:=E.size;omega) (by omega)) (RdD.widen hd5 (by have:=E.size;omega) (by omega)) (RdD.widen hd6 (by have:=E.size;omega) (by omega)) (RdD.widen hd7 (by have:=E.size;omega) (by omega)) (RdD.widen hd8 (by have:=E.size;omega) (by omega)))⟩⟩

set_option maxHeartbeats 4000000 in
set_option maxRecDepth 20000 in
theorem s_DrawSameWorker (vcode : Value) (code : List Byt) (w : World) (hcode : RdS w vcode code) : Ct Tryz.prog 12 [vcode] w (fun v w'=>∃ (dr0 : Worker) (dr1 : Worker),Q6 dr0 ≤ 200 ∧ Q6 dr1 ≤ 200 ∧ ∃ c0 c1,v = .tuple [.agg c0.toArray,.agg c1.toArray].toArray ∧ Dat.R w' w.heap.size w'.heap.size c0 dr0 ∧ Dat.R w' w.heap.size w'.heap.size c1 dr1):=by
 refine Yp Tryz.func12 Z Tryz.ntmps12 Z ?_
 refine Yb [(0,vcode)] ⟨Z,trivial⟩ ?_
 have E : Ext w w:=Ext.refl w
 refine Qh (Qi [false,false] Z Z (Yd Yh Z (fun b1 w1 e1 s1 h1=>?_)))
 have g_b1 : w.heap.size ≤ b1:=by have:=E.size;omega
 have y_b1:=h1.lt
 replace E:=E.trans e1
 have z1:=e1.size
 refine Yd Yh Z (fun b2 w2 e2 s2 h2=>?_)
 have g_b2 : w.heap.size ≤ b2:=by have:=E.size;omega
 have y_b2:=h2.lt
 replace E:=E.trans e2;replace h1:=h1.ext e2
 have z2:=e2.size
 refine Qd (Qh (Qi [true,false,true] Z Z (Qa (Qb Z) Z (Qw Tryz.call37 Z (s_l01New vcode code _ (hcode.ext E)) Z (fun _ w3 e3 hcu1=>?_)))))
 obtain ⟨bc1,rfl,ybc1,hcu1⟩:=hcu1
 have g_bc1 : w.heap.size ≤ bc1:=Nat.le_trans E.size ybc1
 have y_bc1:=CurO.lt hcu1
 replace E:=E.trans e3;replace h1:=h1.ext e3;replace h2:=h2.ext e3
 have z3:=e3.size
 refine Qa (Qe Z) Z (Qd (Qh (Qi [true,false,false,false] Z Z (Qa (Qb Z) Z (Yf Tryz.call38 Z Z (s_l08Graph bc1 vcode code _ hcu1 (RdD.widen (RdD.ext (RdS.rdD hcode) E) (Nat.le_refl _) (by omega))) Z (fun _ w4 e4 ho1=>?_))))))
 obtain ⟨dx1,q1,q2,q3,hcu1',ho1⟩:=ho1
 replace hcu1:=hcu1'
 obtain ⟨o1,rfl,ho1⟩:=ho1
 have g_ho1 : w.heap.size ≤ w3.heap.size:=E.size
 replace E:=E.stepR e4 (by omega);replace h1:=h1.modR e4 (by omega);replace h2:=h2.modR e4 (by omega)
 have z4:=e4.size
 refine Yd Xz Z (fun b3 w5 e5 s3 h3=>?_)
 have g_b3 : w.heap.size ≤ b3:=by have:=E.size;omega
 have y_b3:=h3.lt
 replace E:=E.trans e5;replace h1:=h1.ext e5;replace h2:=h2.ext e5;replace hcu1:=hcu1.ext e5;replace ho1:=ho1.ext e5
 have z5:=e5.size
 refine Qs (cs':=[o1,.int .i64 dx1.workers,.int .i64 dx1.cap]) Xz Z Z Z (Qg (RdD.one (OwS.rd ho1)) (Qg Z (Qg Z Z))) h3 (Nat.le_of_ble_eq_true Z) Z (fun w6 m1 h3'=>?_)
 replace h3:=h3'
 replace E:=E.step m1 (fun g hg=>by cases hg;omega);replace h1:=h1.mod m1 (fun g hg=>by cases hg;omega);replace h2:=h2.mod m1 (fun g hg=>by cases hg;omega);replace hcu1:=hcu1.mod m1 (fun g hg=>by cases hg;omega);replace ho1:=ho1.mod m1 (fun g hg=>by cases hg;omega)
 have z6:=m1.size
 refine Qd (Qh (Qi [true,true,false,false,false] Z Z (Qa (Qb Z) Z (Qa (Ql Xz Z h3.at Z) Z (Yf Tryz.call39 Z Z (s_l12Any bc1 vcode code o1 dx1 _ hcu1 (RdD.widen (RdD.ext (RdS.rdD hcode) E) (Nat.le_refl _) (by omega)) (fun wX eX=>RdD.any (OwS.rd (OwS.modR ho1 eX (by omega)))) (smG_cnt (by assumption))) Z (fun v1 w7 e6 ho2=>?_))))))
 obtain ⟨dx2,q4,hcu1',ho2⟩:=ho2
 replace hcu1:=hcu1'
 obtain ⟨_,rfl,ho2⟩:=ho2
 obtain ⟨o2,o3,o4,o5,o6,o7,o8,o9,rfl,hd1,hd2,hd3,hd4,hd5,hd6,hd7,hd8⟩:=Worker.op ho2
 replace E:=E.stepR e6 (by omega);replace h1:=h1.modR e6 (by omega);replace h2:=h2.modR e6 (by omega);replace ho1:=ho1.modR e6 (by omega);replace h3:=h3.modR e6 (by omega)
 have z7:=e6.size
 refine Yd Yh Z (fun b4 w8 e7 s4 h4=>?_)
 have g_b4 : w.heap.size ≤ b4:=by have:=E.size;omega
 have y_b4:=h4.lt
 replace E:=E.trans e7;replace h1:=h1.ext e7;replace h2:=h2.ext e7;replace hcu1:=hcu1.ext e7;replace ho1:=ho1.ext e7;replace h3:=h3.ext e7;replace hd1:=hd1.ext e7;replace hd2:=hd2.ext e7;replace hd3:=hd3.ext e7;replace hd4:=hd4.ext e7;replace hd5:=hd5.ext e7;replace hd6:=hd6.ext e7;replace hd7:=hd7.ext e7;replace hd8:=hd8.ext e7
 have z8:=e7.size
 refine Qs (cs':=[o2,o3,o4,o5,o6,o7,o8,o9]) Yh Z Z Z (Qg (RdD.one hd1) (Qg (RdD.one hd2) (Qg (RdD.one hd3) (Qg (RdD.one hd4) (Qg (RdD.one hd5) (Qg (RdD.one hd6) (Qg (RdD.one hd7) (Qg (RdD.one hd8) Z)))))))) h4 (Nat.le_of_ble_eq_true Z) Z (fun w9 m2 h4'=>?_)
 replace h4:=h4'
 replace E:=E.step m2 (fun g hg=>by cases hg;omega);replace h1:=h1.mod m2 (fun g hg=>by cases hg;omega);replace h2:=h2.mod m2 (fun g hg=>by cases hg;omega);replace hcu1:=hcu1.mod m2 (fun g hg=>by cases hg;omega);replace ho1:=ho1.mod m2 (fun g hg=>by cases hg;omega);replace h3:=h3.mod m2 (fun g hg=>by cases hg;omega);replace hd1:=hd1.mod m2 (fun g hg=>by cases hg;omega);replace hd2:=hd2.mod m2 (fun g hg=>by cases hg;omega);replace hd3:=hd3.mod m2 (fun g hg=>by cases hg;omega);replace hd4:=hd4.mod m2 (fun g hg=>by cases hg;omega);replace hd5:=hd5.mod m2 (fun g hg=>by cases hg;omega);replace hd6:=hd6.mod m2 (fun g hg=>by cases hg;omega);replace hd7:=hd7.mod m2 (fun g hg=>by cases hg;omega);replace hd8:=hd8.mod m2 (fun g hg=>by cases hg;omega)
 have z9:=m2.size
 refine Qd (Qh (Qh (Qi [true,false] Z Z (Qa (Qb Z) Z (Yf Tryz.call40 Z Z (s_l01Once bc1 vcode code 2 _ hcu1 (RdD.widen (RdD.ext (RdS.rdD hcode) E) (Nat.le_refl _) (by omega))) Z (fun _ w10 e8 hv=>?_))))))
 obtain ⟨dx3,hcu1',hv⟩:=hv
 replace hcu1:=hcu1'
 subst hv
 replace E:=E.stepR e8 (by omega);replace h1:=h1.modR e8 (by omega);replace h2:=h2.modR e8 (by omega);replace ho1:=ho1.modR e8 (by omega);replace h3:=h3.modR e8 (by omega);replace hd1:=hd1.modR e8 (by omega);replace hd2:=hd2.modR e8 (by omega);replace hd3:=hd3.modR e8 (by omega);replace hd4:=hd4.modR e8 (by omega);replace hd5:=hd5.modR e8 (by omega);replace hd6:=hd6.modR e8 (by omega);replace hd7:=hd7.modR e8 (by omega);replace hd8:=hd8.modR e8 (by omega);replace h4:=h4.modR e8 (by omega)
 have z10:=e8.size
 refine Qd (Qt Z (fun hc1=>?_) (fun hc1=>?_))
 ·refine Qh (Xk Xd [(0,true),(1,true),(2,false),(3,false),(4,false)] (by decide +kernel) Z (fun w11 e9=>?_))
  replace E:=E.trans e9;replace h1:=h1.ext e9;replace h2:=h2.ext e9;replace hcu1:=hcu1.ext e9;replace ho1:=ho1.ext e9;replace h3:=h3.ext e9;replace hd1:=hd1.ext e9;replace hd2:=hd2.ext e9;replace hd3:=hd3.ext e9;replace hd4:=hd4.ext e9;replace hd5:=hd5.ext e9;replace hd6:=hd6.ext e9;replace hd7:=hd7.ext e9;replace hd8:=hd8.ext e9;replace h4:=h4.ext e9
  have z11:=e9.size
  refine Qa (Ql Yh Z h4.at Z) Z (Qa (Ql Yh Z h4.at Z) Z (Qw Tryz.call41 Z (s_l12Copy [o2,o3,o4,o5,o6,o7,o8,o9] dx2 _ (Worker.mkR dx2 (RdD.any hd1) (RdD.any hd2) (RdD.any hd3) (RdD.any hd4) (RdD.any hd5) (RdD.any hd6) (RdD.any hd7) (RdD.any hd8)) (by omega)) Z (fun _ w12 e10 ho3=>?_)))
  obtain ⟨_,rfl,ho3⟩:=ho3
  have g_ho3 : w.heap.size ≤ w11.heap.size:=E.size
  replace E:=E.trans e10;replace h1:=h1.ext e10;replace h2:=h2.ext e10;replace hcu1:=hcu1.ext e10;replace ho1:=ho1.ext e10;replace h3:=h3.ext e10;replace hd1:=hd1.ext e10;replace hd2:=hd2.ext e10;replace hd3:=hd3.ext e10;replace hd4:=hd4.ext e10;replace hd5:=hd5.ext e10;replace hd6:=hd6.ext e10;replace hd7:=hd7.ext e10;replace hd8:=hd8.ext e10;replace h4:=h4.ext e10
  have z12:=e10.size
  obtain ⟨o10,o11,o12,o13,o14,o15,o16,o17,rfl,sp1,hw1,hw2,hw3,hw4,hw5,hw6,hw7,hw8⟩:=Worker.opO ho3
  refine Qs (cs':=[o2,o3,o4,o5,o6,o7,o8,o9]) Yh Z Z Z (Qg (RdD.one hd1) (Qg (RdD.one hd2) (Qg (RdD.one hd3) (Qg (RdD.one hd4) (Qg (RdD.one hd5) (Qg (RdD.one hd6) (Qg (RdD.one hd7) (Qg (RdD.one hd8) Z)))))))) h1 (Nat.le_of_ble_eq_true Z) Z (fun w13 m3 h1'=>?_)
  replace h1:=h1'
  replace E:=E.step m3 (fun g hg=>by cases hg;omega);replace h2:=h2.mod m3 (fun g hg=>by cases hg;omega);replace hcu1:=hcu1.mod m3 (fun g hg=>by cases hg;omega);replace ho1:=ho1.mod m3 (fun g hg=>by cases hg;omega);replace h3:=h3.mod m3 (fun g hg=>by cases hg;omega);replace hd1:=hd1.mod m3 (fun g hg=>by cases hg;omega);replace hd2:=hd2.mod m3 (fun g hg=>by cases hg;omega);replace hd3:=hd3.mod m3 (fun g hg=>by cases hg;omega);replace hd4:=hd4.mod m3 (fun g hg=>by cases hg;omega);replace hd5:=hd5.mod m3 (fun g hg=>by cases hg;omega);replace hd6:=hd6.mod m3 (fun g hg=>by cases hg;omega);replace hd7:=hd7.mod m3 (fun g hg=>by cases hg;omega);replace hd8:=hd8.mod m3 (fun g hg=>by cases hg;omega);replace h4:=h4.mod m3 (fun g hg=>by cases hg;omega);replace hw1:=hw1.mod m3 (fun g hg=>by cases hg;omega);replace hw2:=hw2.mod m3 (fun g hg=>by cases hg;omega);replace hw3:=hw3.mod m3 (fun g hg=>by cases hg;omega);replace hw4:=hw4.mod m3 (fun g hg=>by cases hg;omega);replace hw5:=hw5.mod m3 (fun g hg=>by cases hg;omega);replace hw6:=hw6.mod m3 (fun g hg=>by cases hg;omega);replace hw7:=hw7.mod m3 (fun g hg=>by cases hg;omega);replace hw8:=hw8.mod m3 (fun g hg=>by cases hg;omega)
  have z13:=m3.size
  refine Qs (cs':=[o10,o11,o12,o13,o14,o15,o16,o17]) Yh Z Z Z (Qg hw1.one (Qg hw2.one (Qg hw3.one (Qg hw4.one (Qg hw5.one (Qg hw6.one (Qg hw7.one (Qg hw8.one Z)))))))) h2 (Nat.le_of_ble_eq_true Z) Z (fun w14 m4 h2'=>?_)
  replace h2:=h2'
  replace E:=E.step m4 (fun g hg=>by cases hg;omega);replace h1:=h1.mod m4 (fun g hg=>by cases hg;omega);replace hcu1:=hcu1.mod m4 (fun g hg=>by cases hg;omega);replace ho1:=ho1.mod m4 (fun g hg=>by cases hg;omega);replace h3:=h3.mod m4 (fun g hg=>by cases hg;omega);replace hd1:=hd1.mod m4 (fun g hg=>by cases hg;omega);replace hd2:=hd2.mod m4 (fun g hg=>by cases hg;omega);replace hd3:=hd3.mod m4 (fun g hg=>by cases hg;omega);replace hd4:=hd4.mod m4 (fun g hg=>by cases hg;omega);replace hd5:=hd5.mod m4 (fun g hg=>by cases hg;omega);replace hd6:=hd6.mod m4 (fun g hg=>by cases hg;omega);replace hd7:=hd7.mod m4 (fun g hg=>by cases hg;omega);replace hd8:=hd8.mod m4 (fun g hg=>by cases hg;omega);replace h4:=h4.mod m4 (fun g hg=>by cases hg;omega);replace hw1:=hw1.mod m4 (fun g hg=>by cases hg;omega);replace hw2:=hw2.mod m4 (fun g hg=>by cases hg;omega);replace hw3:=hw3.mod m4 (fun g hg=>by cases hg;omega);replace hw4:=hw4.mod m4 (fun g hg=>by cases hg;omega);replace hw5:=hw5.mod m4 (fun g hg=>by cases hg;omega);replace hw6:=hw6.mod m4 (fun g hg=>by cases hg;omega);replace hw7:=hw7.mod m4 (fun g hg=>by cases hg;omega);replace hw8:=hw8.mod m4 (fun g hg=>by cases hg;omega)
  have z14:=m4.size
  refine Qd (Qx (Y1 (l:=[.cell 2 33,.cell 3 33]) (vs:=[.agg [o2,o3,o4,o5,o6,o7,o8,o9].toArray,.agg [o10,o11,o12,o13,o14,o15,o16,o17].toArray]) Z ⟨.cell Z (Qv Yh h1.at Z),.cell Z (Qv Yh h2.at Z),trivial⟩ Z E ?_))
  exact ⟨dx2,dx2,(by assumption),(by assumption),⟨_,_,Z,(Worker.mkR _ (RdD.widen hd1 (by have:=E.size;omega) (by omega)) (RdD.widen hd2 (by have:=E.size;omega) (by omega)) (RdD.widen hd3 (by have:=E.size;omega) (by omega)) (RdD.widen hd4 (by have:=E.size;omega) (by omega)) (RdD.widen hd5 (by have:=E.size;omega) (by omega)) (RdD.widen hd6 (by have:=E.size;omega) (by omega)) (RdD.widen hd7 (by have:=E.size;omega) (by omega)) (RdD.widen hd8 (by have:=E.size;omega) (by omega))),(Worker.mkR _ (RdD.widen (Own.rdD hw1) (by have:=E.size;omega) (by omega)) (RdD.widen (Own.rdD hw2) (by have:=E.size;omega) (by omega)) (RdD.widen (Own.rdD hw3) (by have:=E.size;omega) (by omega)) (RdD.widen (Own.rdD hw4) (by have:=E.size;omega) (by omega)) (RdD.widen (Own.rdD hw5) (by have:=E.size;omega) (by omega)) (RdD.widen (Own.rdD hw6) (by have:=E.size;omega) (by omega)) (RdD.widen (Own.rdD hw7) (by have:=E.size;omega) (by omega)) (RdD.widen (Own.rdD hw8) (by have:=E.size;omega) (by omega)))⟩⟩
 ·refine Qy (Qh (Ga Xd [1] [(0,true),(1,true),(2,true),(3,false)] [(4,false),(5,false)] (by decide +kernel) Z Z (fun w'=>Ext w w' ∧ w10.heap.size ≤ w'.heap.size ∧ Blk w' b1 [.slice none 0 0,.slice none 0 0,.slice none 0 0,.slice none 0 0,.slice none 0 0,.slice none 0 0,.slice none 0 0,.slice none 0 0] ∧ Blk w' b2 [.slice none 0 0,.slice none 0 0,.slice none 0 0,.slice none 0 0,.slice none 0 0,.slice none 0 0,.slice none 0 0,.slice none 0 0] ∧ CurO w' bc1 vcode code ∧ OwS w' w3.heap.size w4.heap.size o1 dx1.nodes ∧ Blk w' b3 [o1,.int .i64 dx1.workers,.int .i64 dx1.cap] ∧ RdD w' w6.heap.size w7.heap.size o2 dx2.queue ∧ RdD w' w6.heap.size w7.heap.size o3 dx2.staged ∧ RdD w' w6.heap.size w7.heap.size o4 dx2.inputs ∧ RdD w' w6.heap.size w7.heap.size o5 dx2.cells ∧ RdD w' w6.heap.size w7.heap.size o6 dx2.sums ∧ RdD w' w6.heap.size w7.heap.size o7 dx2.black ∧ RdD w' w6.heap.size w7.heap.size o8 dx2.caps ∧ RdD w' w6.heap.size w7.heap.size o9 dx2.dones ∧ Blk w' b4 [o2,o3,o4,o5,o6,o7,o8,o9]) (fun w15 e11=>?_)))
  replace E:=E.trans e11;replace h1:=h1.ext e11;replace h2:=h2.ext e11;replace hcu1:=hcu1.ext e11;replace ho1:=ho1.ext e11;replace h3:=h3.ext e11;replace hd1:=hd1.ext e11;replace hd2:=hd2.ext e11;replace hd3:=hd3.ext e11;replace hd4:=hd4.ext e11;replace hd5:=hd5.ext e11;replace hd6:=hd6.ext e11;replace hd7:=hd7.ext e11;replace hd8:=hd8.ext e11;replace h4:=h4.ext e11
  have z15:=e11.size
  refine ⟨⟨E,(by omega),h1,h2,hcu1,ho1,h3,hd1,hd2,hd3,hd4,hd5,hd6,hd7,hd8,h4⟩,?_⟩
  refine U2 rfl (fun wX hX=>by obtain ⟨E,zX,h1,h2,hcu1,ho1,h3,hd1,hd2,hd3,hd4,hd5,hd6,hd7,hd8,h4⟩:=hX;exact Ql Yh rfl h4.at rfl) rfl ?_
  refine Kw Z (fun wX=>Qb Z) Z ?_
  refine U2 rfl (fun wX hX=>by obtain ⟨E,zX,h1,h2,hcu1,ho1,h3,hd1,hd2,hd3,hd4,hd5,hd6,hd7,hd8,h4⟩:=hX;exact Ql Xz rfl h3.at rfl) rfl ?_
  refine K7 Z ?_
  refine Yf Tryz.call39 Z Z (s_l12Any bc1 vcode code o1 dx1 _ hcu1 (RdD.widen (RdD.ext (RdS.rdD hcode) E) (Nat.le_refl _) (by omega)) (fun wX eX=>RdD.any (OwS.rd (OwS.modR ho1 eX (by omega)))) (smG_cnt (by assumption))) Z (fun v2 w16 e12 ho4=>?_)
  obtain ⟨dx4,q5,hcu1',ho4⟩:=ho4
  replace hcu1:=hcu1'
  obtain ⟨_,rfl,ho4⟩:=ho4
  obtain ⟨o18,o19,o20,o21,o22,o23,o24,o25,rfl,hd9,hd10,hd11,hd12,hd13,hd14,hd15,hd16⟩:=Worker.op ho4
  replace E:=E.stepR e12 (by omega);replace h1:=h1.modR e12 (by omega);replace h2:=h2.modR e12 (by omega);replace ho1:=ho1.modR e12 (by omega);replace h3:=h3.modR e12 (by omega);replace hd1:=hd1.modR e12 (by omega);replace hd2:=hd2.modR e12 (by omega);replace hd3:=hd3.modR e12 (by omega);replace hd4:=hd4.modR e12 (by omega);replace hd5:=hd5.modR e12 (by omega);replace hd6:=hd6.modR e12 (by omega);replace hd7:=hd7.modR e12 (by omega);replace hd8:=hd8.modR e12 (by omega);replace h4:=h4.modR e12 (by omega)
  have z16:=e12.size
  refine Xx ⟨E,(by omega),h1,h2,hcu1,ho1,h3,hd1,hd2,hd3,hd4,hd5,hd6,hd7,hd8,h4⟩ ?_
  refine Gc ?_
  refine Qs (cs':=[o2,o3,o4,o5,o6,o7,o8,o9]) Yh Z Z Z (Qg (RdD.one hd1) (Qg (RdD.one hd2) (Qg (RdD.one hd3) (Qg (RdD.one hd4) (Qg (RdD.one hd5) (Qg (RdD.one hd6) (Qg (RdD.one hd7) (Qg (RdD.one hd8) Z)))))))) h1 (Nat.le_of_ble_eq_true Z) Z (fun w17 m5 h1'=>?_)
  replace h1:=h1'
  replace E:=E.step m5 (fun g hg=>by cases hg;omega);replace h2:=h2.mod m5 (fun g hg=>by cases hg;omega);replace hcu1:=hcu1.mod m5 (fun g hg=>by cases hg;omega);replace ho1:=ho1.mod m5 (fun g hg=>by cases hg;omega);replace h3:=h3.mod m5 (fun g hg=>by cases hg;omega);replace hd1:=hd1.mod m5 (fun g hg=>by cases hg;omega);replace hd2:=hd2.mod m5 (fun g hg=>by cases hg;omega);replace hd3:=hd3.mod m5 (fun g hg=>by cases hg;omega);replace hd4:=hd4.mod m5 (fun g hg=>by cases hg;omega);replace hd5:=hd5.mod m5 (fun g hg=>by cases hg;omega);replace hd6:=hd6.mod m5 (fun g hg=>by cases hg;omega);replace hd7:=hd7.mod m5 (fun g hg=>by cases hg;omega);replace hd8:=hd8.mod m5 (fun g hg=>by cases hg;omega);replace h4:=h4.mod m5 (fun g hg=>by cases hg;omega);replace hd9:=hd9.mod m5 (fun g hg=>by cases hg;omega);replace hd10:=hd10.mod m5 (fun g hg=>by cases hg;omega);replace hd11:=hd11.mod m5 (fun g hg=>by cases hg;omega);replace hd12:=hd12.mod m5 (fun g hg=>by cases hg;omega);replace hd13:=hd13.mod m5 (fun g hg=>by cases hg;omega);replace hd14:=hd14.mod m5 (fun g hg=>by cases hg;omega);replace hd15:=hd15.mod m5 (fun g hg=>by cases hg;omega);replace hd16:=hd16.mod m5 (fun g hg=>by cases hg;omega)
  have z17:=m5.size
  refine Qs (cs':=[o18,o19,o20,o21,o22,o23,o24,o25]) Yh Z Z Z (Qg (RdD.one hd9) (Qg (RdD.one hd10) (Qg (RdD.one hd11) (Qg (RdD.one hd12) (Qg (RdD.one hd13) (Qg (RdD.one hd14) (Qg (RdD.one hd15) (Qg (RdD.one hd16) Z)))))))) h2 (Nat.le_of_ble_eq_true Z) Z (fun w18 m6 h2'=>?_)
  replace h2:=h2'
  replace E:=E.step m6 (fun g hg=>by cases hg;omega);replace h1:=h1.mod m6 (fun g hg=>by cases hg;omega);replace hcu1:=hcu1.mod m6 (fun g hg=>by cases hg;omega);replace ho1:=ho1.mod m6 (fun g hg=>by cases hg;omega);replace h3:=h3.mod m6 (fun g hg=>by cases hg;omega);replace hd1:=hd1.mod m6 (fun g hg=>by cases hg;omega);replace hd2:=hd2.mod m6 (fun g hg=>by cases hg;omega);replace hd3:=hd3.mod m6 (fun g hg=>by cases hg;omega);replace hd4:=hd4.mod m6 (fun g hg=>by cases hg;omega);replace hd5:=hd5.mod m6 (fun g hg=>by cases hg;omega);replace hd6:=hd6.mod m6 (fun g hg=>by cases hg;omega);replace hd7:=hd7.mod m6 (fun g hg=>by cases hg;omega);replace hd8:=hd8.mod m6 (fun g hg=>by cases hg;omega);replace h4:=h4.mod m6 (fun g hg=>by cases hg;omega);replace hd9:=hd9.mod m6 (fun g hg=>by cases hg;omega);replace hd10:=hd10.mod m6 (fun g hg=>by cases hg;omega);replace hd11:=hd11.mod m6 (fun g hg=>by cases hg;omega);replace hd12:=hd12.mod m6 (fun g hg=>by cases hg;omega);replace hd13:=hd13.mod m6 (fun g hg=>by cases hg;omega);replace hd14:=hd14.mod m6 (fun g hg=>by cases hg;omega);replace hd15:=hd15.mod m6 (fun g hg=>by cases hg;omega);replace hd16:=hd16.mod m6 (fun g hg=>by cases hg;omega)
  have z18:=m6.size
  refine Qd (Qx (Y1 (l:=[.cell 2 33,.cell 3 33]) (vs:=[.agg [o2,o3,o4,o5,o6,o7,o8,o9].toArray,.agg [o18,o19,o20,o21,o22,o23,o24,o25].toArray]) Z ⟨.cell Z (Qv Yh h1.at Z),.cell Z (Qv Yh h2.at Z),trivial⟩ Z E ?_))
  exact ⟨dx2,dx4,(by assumption),(by assumption),⟨_,_,Z,(Worker.mkR _ (RdD.widen hd1 (by have:=E.size;omega) (by omega)) (RdD.widen hd2 (by have:=E.size;omega) (by omega)) (RdD.widen hd3 (by have:=E.size;omega) (by omega)) (RdD.widen hd4 (by have:=E.size;omega) (by omega)) (RdD.widen hd5 (by have:=E.size;omega) (by omega)) (RdD.widen hd6 (by have:=E.size;omega) (by omega)) (RdD.widen hd7 (by have:=E.size;omega) (by omega)) (RdD.widen hd8 (by have:=E.size;omega) (by omega))),(Worker.mkR _ (RdD.widen hd9 (by have:=E.size;omega) (by omega)) (RdD.widen hd10 (by have:=E.size;omega) (by omega)) (RdD.widen hd11 (by have:=E.size;omega) (by omega)) (RdD.widen hd12 (by have:=E.size;omega) (by omega)) (RdD.widen hd13 (by have:=E.size;omega) (by omega)) (RdD.widen hd14 (by have:=E.size;omega) (by omega)) (RdD.widen hd15 (by have:=E.size;omega) (by omega)) (RdD.widen hd16 (by have:=E.size;omega) (by omega)))⟩⟩

set_option maxRecDepth 20000 in
theorem s_DrawWorkerNew (vcode : Value) (code : List Byt) (w : World) (hcode : RdS w vcode code) : Ct Tryz.prog 13 [vcode] w (fun v w'=>∃ (dr0 : List Record),dr0.length ≤ 6 ∧ Own w' w.heap.size w'.heap.size 5 v (List.flatMap (Enc.enc (α:=Record)) dr0)):=by
 refine Yp Tryz.func13 Z Tryz.ntmps13 Z ?_
 refine Yb [(0,vcode)] ⟨Z,trivial⟩ ?_
 have E : Ext w w:=Ext.refl w
 refine Qh (Qi [true] Z Z (Qa (Qe Z) Z (Qd (Qh (Qi [true,false,false,true] Z Z (Qa (Qb Z) Z (Qw Tryz.call37 Z (s_l01New vcode code _ (hcode.ext E)) Z (fun _ w1 e1 hcu1=>?_))))))))
 obtain ⟨bc1,rfl,ybc1,hcu1⟩:=hcu1
 have g_bc1 : w.heap.size ≤ bc1:=Nat.le_trans E.size ybc1
 have y_bc1:=CurO.lt hcu1
 replace E:=E.trans e1
 have z1:=e1.size
 refine Yf Tryz.call42 Z Z (s_l05List bc1 vcode code _ hcu1 (RdD.widen (RdD.ext (RdS.rdD hcode) E) (Nat.le_refl _) (by omega))) Z (fun v1 w2 e2 ho1=>?_)
 obtain ⟨dx1,q1,hcu1',ho1⟩:=ho1
 replace hcu1:=hcu1'
 have g_ho1 : w.heap.size ≤ w1.heap.size:=E.size
 replace E:=E.stepR e2 (by omega)
 have z2:=e2.size
 refine Qa (Qe Z) Z (Qd (Qx (Qu Z Z E ?_)))
 exact ⟨dx1,(by assumption),Own.fin ho1 (by have:=E.size;omega) (by omega) (by first | (simp [*];done) | (simp [*];rfl))⟩

set_option maxHeartbeats 4000000 in
set_option maxRecDepth 20000 in
theorem l_FnWorkers (vcode : Value) (code : List Byt) (w : World) (hcode : RdS w vcode code) (kcode : ∀ y ∈ code,True) : Ct Tryz.prog 3 [vcode] w (fun v _=>v = .bool true):=by
 refine Yp Tryz.func3 Z Tryz.ntmps3 Z ?_
 refine Yb [(0,vcode)] ⟨Z,trivial⟩ ?_
 have E : Ext w w:=Ext.refl w
 refine Qh (Qi [true] Z Z (Qa (Qe Z) Z (Qd (Qh (Qh (Qi [true,false] Z Z (Qa (Qb Z) Z (Qw Tryz.call4 Z (l_big vcode code _ (hcode.ext E)) Z (fun _ w1 e1 hv=>?_)))))))))
 subst hv
 replace E:=E.trans e1
 have z1:=e1.size
 refine Qd (Qt Z (fun hc1=>?_) (fun hc1=>?_))
 ·refine Qh (Qi [true] Z Z (Qa (Qe Z) Z (Qd (Qx (Qu Z Z E ?_)))))
  rfl
 ·refine Qy (Qh (Qi [true,false,true,true,true,false,false,false,false] Z Z (Qa (Qb Z) Z (Qw Tryz.call5 Z (s_DrawWorkerOk vcode code _ (hcode.ext E)) Z (fun _ w2 e2 ho1=>?_)))))
  obtain ⟨dx1,dx2,q1,q2,ho1⟩:=ho1
  obtain ⟨_,_,rfl,ho2,ho3⟩:=ho1
  have g_ho1 : w.heap.size ≤ w1.heap.size:=E.size
  replace E:=E.trans e2
  have z2:=e2.size
  have hD1:=ho2
  obtain ⟨o1,rfl,_⟩:=Graph.op hD1
  clear ho2
  have hD2:=ho3
  obtain ⟨o2,o3,o4,o5,o6,o7,o8,o9,rfl,_,_,_,_,_,_,_,_⟩:=Worker.op hD2
  clear ho3
  refine Qa (Qb Z) Z (Qa (Ym Z Z) Z (Qa (Ym Z Z) Z (Yd Xz Z (fun b1 w3 e3 s1 h1=>?_))))
  have g_b1 : w.heap.size ≤ b1:=by have:=E.size;omega
  have y_b1:=h1.lt
  replace E:=E.trans e3;replace hD1:=hD1.ext e3;replace hD2:=hD2.ext e3
  have z3:=e3.size
  refine Yd Yh Z (fun b2 w4 e4 s2 h2=>?_)
  have g_b2 : w.heap.size ≤ b2:=by have:=E.size;omega
  have y_b2:=h2.lt
  replace E:=E.trans e4;replace hD1:=hD1.ext e4;replace hD2:=hD2.ext e4;replace h1:=h1.ext e4
  have z4:=e4.size
  refine Qs (cs':=[o1,.int .i64 dx1.workers,.int .i64 dx1.cap]) Xz Z Z Z (Qg (RdD.one (Graph.opD hD1)) (Qg Z (Qg Z Z))) h1 (Nat.le_of_ble_eq_true Z) Z (fun w5 m1 h1'=>?_)
  replace h1:=h1'
  replace E:=E.step m1 (fun g hg=>by cases hg;omega);replace hD1:=hD1.mod m1 (fun g hg=>by cases hg;omega);replace hD2:=hD2.mod m1 (fun g hg=>by cases hg;omega);replace h2:=h2.mod m1 (fun g hg=>by cases hg;omega)
  have z5:=m1.size
  refine Qs (cs':=[o2,o3,o4,o5,o6,o7,o8,o9]) Yh Z Z Z (Qg (RdD.one (Worker.opD hD2).1) (Qg (RdD.one (Worker.opD hD2).2.1) (Qg (RdD.one (Worker.opD hD2).2.2.1) (Qg (RdD.one (Worker.opD hD2).2.2.2.1) (Qg (RdD.one (Worker.opD hD2).2.2.2.2.1) (Qg (RdD.one (Worker.opD hD2).2.2.2.2.2.1) (Qg (RdD.one (Worker.opD hD2).2.2.2.2.2.2.1) (Qg (RdD.one (Worker.opD hD2).2.2.2.2.2.2.2) Z)))))))) h2 (Nat.le_of_ble_eq_true Z) Z (fun w6 m2 h2'=>?_)
  replace h2:=h2'
  replace E:=E.step m2 (fun g hg=>by cases hg;omega);replace hD1:=hD1.mod m2 (fun g hg=>by cases hg;omega);replace hD2:=hD2.mod m2 (fun g hg=>by cases hg;omega);replace h1:=h1.mod m2 (fun g hg=>by cases hg;omega)
  have z6:=m2.size
  refine Qd (Qh (Qh (Xk Xd [(0,true),(1,true),(3,true),(4,true),(2,false),(5,false),(6,true),(7,true),(8,true),(10,true),(9,false),(11,false),(12,false),(13,true),(14,true)] (by decide +kernel) Z (fun w7 e5=>?_))))
  replace E:=E.trans e5;replace hD1:=hD1.ext e5;replace hD2:=hD2.ext e5;replace h1:=h1.ext e5;replace h2:=h2.ext e5
  have z7:=e5.size
  refine Qa (Ql Xz Z h1.at Z) Z (Qa (Ql Yh Z h2.at Z) Z (Qa (Ql Xz Z h1.at Z) Z (Qa (Ql Yh Z h2.at Z) Z (Qw Tryz.call6 Z (c_WorkerOk [o1,.int .i64 dx1.workers,.int .i64 dx1.cap] dx1 [o2,o3,o4,o5,o6,o7,o8,o9] dx2 _ (Dat.R.any hD1) (Dat.R.any hD2)) Z (fun _ w8 e6 hv=>?_)))))
  subst hv
  replace E:=E.trans e6;replace hD1:=hD1.ext e6;replace hD2:=hD2.ext e6;replace h1:=h1.ext e6;replace h2:=h2.ext e6
  have z8:=e6.size
  refine Qw Tryz.call7 Z (s_WorkerOk [o1,.int .i64 dx1.workers,.int .i64 dx1.cap] dx1 [o2,o3,o4,o5,o6,o7,o8,o9] dx2 _ (Dat.R.any hD1) (Dat.R.any hD2)) Z (fun _ w9 e7 hv=>?_)
  subst hv
  replace E:=E.trans e7;replace hD1:=hD1.ext e7;replace hD2:=hD2.ext e7;replace h1:=h1.ext e7;replace h2:=h2.ext e7
  have z9:=e7.size
  refine Qa (Tk (Tryz.underlying4) Z Z) Z (Qa (Qb Z) Z (Xr 7 [(0,vcode),(2,.bool false),(3,.pointer (some ⟨b1,0,none⟩)),(4,.pointer (some ⟨b2,0,none⟩)),(11,vcode),(12,.bool (decide (((code.length : Nat) : Int) > 1048576))),(13,.tuple [.agg [o1,.int .i64 dx1.workers,.int .i64 dx1.cap].toArray,.agg [o2,o3,o4,o5,o6,o7,o8,o9].toArray].toArray),(14,vcode),(15,.tuple [.agg [o1,.int .i64 dx1.workers,.int .i64 dx1.cap].toArray,.agg [o2,o3,o4,o5,o6,o7,o8,o9].toArray].toArray),(16,.agg [o1,.int .i64 dx1.workers,.int .i64 dx1.cap].toArray),(17,.agg [o2,o3,o4,o5,o6,o7,o8,o9].toArray),(32,.bool ((!((Yv dx1 dx2) == (Yv dx1 dx2))) || (!(decide ((Xl (Yq (U6 dx2))) = (Vd (U6 dx2)))))))] (fun w'=>Ext w w' ∧ w9.heap.size ≤ w'.heap.size ∧ Dat.R w' w1.heap.size w2.heap.size [o1,.int .i64 dx1.workers,.int .i64 dx1.cap] dx1 ∧ Dat.R w' w1.heap.size w2.heap.size [o2,o3,o4,o5,o6,o7,o8,o9] dx2 ∧ Blk w' b1 [o1,.int .i64 dx1.workers,.int .i64 dx1.cap] ∧ Blk w' b2 [o2,o3,o4,o5,o6,o7,o8,o9]) ?_ ?_))
  ·refine Yz (gd:=25) Z Z (fun hg1=>?_) (fun hg1=>?_)
   ·exact absurd hg1 (by first | (simp;done) | (simp only [Qq] <;> simp) | (simp only [Q1,Qq] <;> simp) | (simp only [Q1] <;> simp))
   ·refine Qm Z Z (Ql Yh Z h2.at Z) Z (Qm Z Z (Ql Yh Z h2.at Z) Z ?_)
    refine Xa Z Z ?_
    refine Qw Tryz.call9 Z (c_CountsAt [o2,o3,o4,o5,o6,o7,o8,o9] dx2 _ (Dat.R.any hD2) (by rw [Vz];unfold Q6 at *;omega)) Z (fun v1 w11 e8 ho4=>?_)
    have g_ho4 : w.heap.size ≤ w9.heap.size:=E.size
    replace E:=E.trans e8;replace hD1:=hD1.ext e8;replace hD2:=hD2.ext e8;replace h1:=h1.ext e8;replace h2:=h2.ext e8
    have z10:=e8.size
    refine Xa Z Z ?_
    refine Qw Tryz.call10 Z (s_CountsAt [o2,o3,o4,o5,o6,o7,o8,o9] dx2 _ (Dat.R.any hD2) (by rw [Vz];unfold Q6 at *;omega)) Z (fun v2 w12 e9 ho5=>?_)
    have g_ho5 : w.heap.size ≤ w11.heap.size:=E.size
    replace E:=E.trans e9;replace hD1:=hD1.ext e9;replace hD2:=hD2.ext e9;replace h1:=h1.ext e9;replace h2:=h2.ext e9;replace ho4:=ho4.ext e9
    have z11:=e9.size
    refine Xa Z Z ?_
    refine Qw Tryz.call8 Z (l_sameCounts v1 (Xl (Yq (U6 dx2))) v2 (Vd (U6 dx2)) _ (Own.rd (by decide) ho4) (Own.rd (by decide) ho5)) Z (fun _ w13 e10 hv=>?_)
    subst hv
    replace E:=E.trans e10;replace hD1:=hD1.ext e10;replace hD2:=hD2.ext e10;replace h1:=h1.ext e10;replace h2:=h2.ext e10;replace ho4:=ho4.ext e10;replace ho5:=ho5.ext e10
    have z12:=e10.size
    refine Qm Z Z (Xn Z) Z (Qa (Qp Z Z) Z (Qn ⟨Z,Z,Z,Z,Z,Z,Z,Z,Z,Z,Z,congrArg (fun b=>some (Value.bool b)) (show (!(decide ((Xl (Yq (U6 dx2))) = (Vd (U6 dx2))))) = ((!((Yv dx1 dx2) == (Yv dx1 dx2))) || (!(decide ((Xl (Yq (U6 dx2))) = (Vd (U6 dx2)))))) by first | (rw [hg1] <;> rfl) | (simp [hg1];done) | (simp only [Qq] <;> simp)),trivial⟩ ⟨E,(by omega),hD1,hD2,h1,h2⟩))
  clear E hD1 hD2 h1 h2
  rintro w10 ⟨E,z13,hD1,hD2,h1,h2⟩
  refine Qd (S_condFe Z (by rw [counts_same (by rw [Vz];unfold Q6 at *;omega)];simp) (Qy (Qh (Qi [true,false,true,true,true,false,false,true] Z Z (Qa (Qb Z) Z (Qw Tryz.call11 Z (s_DrawPassiveAt vcode code _ (hcode.ext E)) Z (fun _ w14 e11 ho6=>?_)))))))
  obtain ⟨dx3,dx4,q3,ho6⟩:=ho6
  obtain ⟨_,rfl,ho7⟩:=ho6
  have g_ho6 : w.heap.size ≤ w10.heap.size:=E.size
  replace E:=E.trans e11;replace hD1:=hD1.ext e11;replace hD2:=hD2.ext e11;replace h1:=h1.ext e11;replace h2:=h2.ext e11
  have z14:=e11.size
  have hD3:=ho7
  obtain ⟨o10,o11,o12,o13,o14,o15,o16,o17,rfl,_,_,_,_,_,_,_,_⟩:=Worker.op hD3
  clear ho7
  refine Qa (Qb Z) Z (Qa (Ym Z Z) Z (Qa (Ym Z Z) Z (Yd Yh Z (fun b3 w15 e12 s3 h3=>?_))))
  have g_b3 : w.heap.size ≤ b3:=by have:=E.size;omega
  have y_b3:=h3.lt
  replace E:=E.trans e12;replace hD1:=hD1.ext e12;replace hD2:=hD2.ext e12;replace h1:=h1.ext e12;replace h2:=h2.ext e12;replace hD3:=hD3.ext e12
  have z15:=e12.size
  refine Qs (cs':=[o10,o11,o12,o13,o14,o15,o16,o17]) Yh Z Z Z (Qg (RdD.one (Worker.opD hD3).1) (Qg (RdD.one (Worker.opD hD3).2.1) (Qg (RdD.one (Worker.opD hD3).2.2.1) (Qg (RdD.one (Worker.opD hD3).2.2.2.1) (Qg (RdD.one (Worker.opD hD3).2.2.2.2.1) (Qg (RdD.one (Worker.opD hD3).2.2.2.2.2.1) (Qg (RdD.one (Worker.opD hD3).2.2.2.2.2.2.1) (Qg (RdD.one (Worker.opD hD3).2.2.2.2.2.2.2) Z)))))))) h3 (Nat.le_of_ble_eq_true Z) Z (fun w16 m3 h3'=>?_)
  replace h3:=h3'
  replace E:=E.step m3 (fun g hg=>by cases hg;omega);replace hD1:=hD1.mod m3 (fun g hg=>by cases hg;omega);replace hD2:=hD2.mod m3 (fun g hg=>by cases hg;omega);replace h1:=h1.mod m3 (fun g hg=>by cases hg;omega);replace h2:=h2.mod m3 (fun g hg=>by cases hg;omega);replace hD3:=hD3.mod m3 (fun g hg=>by cases hg;omega)
  have z16:=m3.size
  refine Qa (Qe Z) Z (Qd (Qh (Yb [(0,vcode),(2,.bool false),(3,.pointer (some ⟨b1,0,none⟩)),(5,.pointer (some ⟨b3,0,none⟩)),(6,.int .i64 dx4)] ⟨Z,Z,Z,Z,Z,trivial⟩ (Qi [true,false,true,true,true,false,false,false,false] Z Z (Qa (Qb Z) Z (Qw Tryz.call12 Z (s_DrawSameWorker vcode code _ (hcode.ext E)) Z (fun _ w17 e13 ho8=>?_)))))))
  obtain ⟨dx5,dx6,q4,q5,ho8⟩:=ho8
  obtain ⟨_,_,rfl,ho9,ho10⟩:=ho8
  have g_ho8 : w.heap.size ≤ w16.heap.size:=E.size
  replace E:=E.trans e13;replace hD1:=hD1.ext e13;replace hD2:=hD2.ext e13;replace h1:=h1.ext e13;replace h2:=h2.ext e13;replace hD3:=hD3.ext e13;replace h3:=h3.ext e13
  have z17:=e13.size
  have hD4:=ho9
  obtain ⟨o18,o19,o20,o21,o22,o23,o24,o25,rfl,_,_,_,_,_,_,_,_⟩:=Worker.op hD4
  clear ho9
  have hD5:=ho10
  obtain ⟨o26,o27,o28,o29,o30,o31,o32,o33,rfl,_,_,_,_,_,_,_,_⟩:=Worker.op hD5
  clear ho10
  refine Qa (Qb Z) Z (Qa (Ym Z Z) Z (Qa (Ym Z Z) Z (Yd Yh Z (fun b4 w18 e14 s4 h4=>?_))))
  have g_b4 : w.heap.size ≤ b4:=by have:=E.size;omega
  have y_b4:=h4.lt
  replace E:=E.trans e14;replace hD1:=hD1.ext e14;replace hD2:=hD2.ext e14;replace h1:=h1.ext e14;replace h2:=h2.ext e14;replace hD3:=hD3.ext e14;replace h3:=h3.ext e14;replace hD4:=hD4.ext e14;replace hD5:=hD5.ext e14
  have z18:=e14.size
  refine Yd Yh Z (fun b5 w19 e15 s5 h5=>?_)
  have g_b5 : w.heap.size ≤ b5:=by have:=E.size;omega
  have y_b5:=h5.lt
  replace E:=E.trans e15;replace hD1:=hD1.ext e15;replace hD2:=hD2.ext e15;replace h1:=h1.ext e15;replace h2:=h2.ext e15;replace hD3:=hD3.ext e15;replace h3:=h3.ext e15;replace hD4:=hD4.ext e15;replace hD5:=hD5.ext e15;replace h4:=h4.ext e15
  have z19:=e15.size
  refine Qs (cs':=[o18,o19,o20,o21,o22,o23,o24,o25]) Yh Z Z Z (Qg (RdD.one (Worker.opD hD4).1) (Qg (RdD.one (Worker.opD hD4).2.1) (Qg (RdD.one (Worker.opD hD4).2.2.1) (Qg (RdD.one (Worker.opD hD4).2.2.2.1) (Qg (RdD.one (Worker.opD hD4).2.2.2.2.1) (Qg (RdD.one (Worker.opD hD4).2.2.2.2.2.1) (Qg (RdD.one (Worker.opD hD4).2.2.2.2.2.2.1) (Qg (RdD.one (Worker.opD hD4).2.2.2.2.2.2.2) Z)))))))) h4 (Nat.le_of_ble_eq_true Z) Z (fun w20 m4 h4'=>?_)
  replace h4:=h4'
  replace E:=E.step m4 (fun g hg=>by cases hg;omega);replace hD1:=hD1.mod m4 (fun g hg=>by cases hg;omega);replace hD2:=hD2.mod m4 (fun g hg=>by cases hg;omega);replace h1:=h1.mod m4 (fun g hg=>by cases hg;omega);replace h2:=h2.mod m4 (fun g hg=>by cases hg;omega);replace hD3:=hD3.mod m4 (fun g hg=>by cases hg;omega);replace h3:=h3.mod m4 (fun g hg=>by cases hg;omega);replace hD4:=hD4.mod m4 (fun g hg=>by cases hg;omega);replace hD5:=hD5.mod m4 (fun g hg=>by cases hg;omega);replace h5:=h5.mod m4 (fun g hg=>by cases hg;omega)
  have z20:=m4.size
  refine Qs (cs':=[o26,o27,o28,o29,o30,o31,o32,o33]) Yh Z Z Z (Qg (RdD.one (Worker.opD hD5).1) (Qg (RdD.one (Worker.opD hD5).2.1) (Qg (RdD.one (Worker.opD hD5).2.2.1) (Qg (RdD.one (Worker.opD hD5).2.2.2.1) (Qg (RdD.one (Worker.opD hD5).2.2.2.2.1) (Qg (RdD.one (Worker.opD hD5).2.2.2.2.2.1) (Qg (RdD.one (Worker.opD hD5).2.2.2.2.2.2.1) (Qg (RdD.one (Worker.opD hD5).2.2.2.2.2.2.2) Z)))))))) h5 (Nat.le_of_ble_eq_true Z) Z (fun w21 m5 h5'=>?_)
  replace h5:=h5'
  replace E:=E.step m5 (fun g hg=>by cases hg;omega);replace hD1:=hD1.mod m5 (fun g hg=>by cases hg;omega);replace hD2:=hD2.mod m5 (fun g hg=>by cases hg;omega);replace h1:=h1.mod m5 (fun g hg=>by cases hg;omega);replace h2:=h2.mod m5 (fun g hg=>by cases hg;omega);replace hD3:=hD3.mod m5 (fun g hg=>by cases hg;omega);replace h3:=h3.mod m5 (fun g hg=>by cases hg;omega);replace hD4:=hD4.mod m5 (fun g hg=>by cases hg;omega);replace hD5:=hD5.mod m5 (fun g hg=>by cases hg;omega);replace h4:=h4.mod m5 (fun g hg=>by cases hg;omega)
  have z21:=m5.size
  refine Qd (Qh (Qi [true,false,true] Z Z (Qa (Qb Z) Z (Qw Tryz.call13 Z (s_DrawWorkerNew vcode code _ (hcode.ext E)) Z (fun v3 w22 e16 ho11=>?_)))))
  obtain ⟨dx7,q6,ho11⟩:=ho11
  have g_ho11 : w.heap.size ≤ w21.heap.size:=E.size
  replace E:=E.trans e16;replace hD1:=hD1.ext e16;replace hD2:=hD2.ext e16;replace h1:=h1.ext e16;replace h2:=h2.ext e16;replace hD3:=hD3.ext e16;replace h3:=h3.ext e16;replace hD4:=hD4.ext e16;replace hD5:=hD5.ext e16;replace h4:=h4.ext e16;replace h5:=h5.ext e16
  have z22:=e16.size
  refine Qa (Qe Z) Z (Qd (Qh (Qi [true,false,false,false] Z Z (Qa (Qb Z) Z (Qw Tryz.call14 Z (c_WorkerNew v3 dx7 _ (Own.rd (by decide) ho11) (by first | omega | (simp;done))) Z (fun _ w23 e17 ho12=>?_))))))
  obtain ⟨_,rfl,ho12⟩:=ho12
  have g_ho12 : w.heap.size ≤ w22.heap.size:=E.size
  replace E:=E.trans e17;replace hD1:=hD1.ext e17;replace hD2:=hD2.ext e17;replace h1:=h1.ext e17;replace h2:=h2.ext e17;replace hD3:=hD3.ext e17;replace h3:=h3.ext e17;replace hD4:=hD4.ext e17;replace hD5:=hD5.ext e17;replace h4:=h4.ext e17;replace h5:=h5.ext e17;replace ho11:=ho11.ext e17
  have z23:=e17.size
  have hD6:=Own1.rd ho12
  obtain ⟨o34,o35,o36,o37,o38,o39,o40,o41,rfl,_,_,_,_,_,_,_,_⟩:=Worker.op hD6
  clear ho12
  refine Yd Yh Z (fun b6 w24 e18 s6 h6=>?_)
  have g_b6 : w.heap.size ≤ b6:=by have:=E.size;omega
  have y_b6:=h6.lt
  replace E:=E.trans e18;replace hD1:=hD1.ext e18;replace hD2:=hD2.ext e18;replace h1:=h1.ext e18;replace h2:=h2.ext e18;replace hD3:=hD3.ext e18;replace h3:=h3.ext e18;replace hD4:=hD4.ext e18;replace hD5:=hD5.ext e18;replace h4:=h4.ext e18;replace h5:=h5.ext e18;replace ho11:=ho11.ext e18;replace hD6:=hD6.ext e18
  have z24:=e18.size
  refine Qs (cs':=[o34,o35,o36,o37,o38,o39,o40,o41]) Yh Z Z Z (Qg (RdD.one (Worker.opD hD6).1) (Qg (RdD.one (Worker.opD hD6).2.1) (Qg (RdD.one (Worker.opD hD6).2.2.1) (Qg (RdD.one (Worker.opD hD6).2.2.2.1) (Qg (RdD.one (Worker.opD hD6).2.2.2.2.1) (Qg (RdD.one (Worker.opD hD6).2.2.2.2.2.1) (Qg (RdD.one (Worker.opD hD6).2.2.2.2.2.2.1) (Qg (RdD.one (Worker.opD hD6).2.2.2.2.2.2.2) Z)))))))) h6 (Nat.le_of_ble_eq_true Z) Z (fun w25 m6 h6'=>?_)
  replace h6:=h6'
  replace E:=E.step m6 (fun g hg=>by cases hg;omega);replace hD1:=hD1.mod m6 (fun g hg=>by cases hg;omega);replace hD2:=hD2.mod m6 (fun g hg=>by cases hg;omega);replace h1:=h1.mod m6 (fun g hg=>by cases hg;omega);replace h2:=h2.mod m6 (fun g hg=>by cases hg;omega);replace hD3:=hD3.mod m6 (fun g hg=>by cases hg;omega);replace h3:=h3.mod m6 (fun g hg=>by cases hg;omega);replace hD4:=hD4.mod m6 (fun g hg=>by cases hg;omega);replace hD5:=hD5.mod m6 (fun g hg=>by cases hg;omega);replace h4:=h4.mod m6 (fun g hg=>by cases hg;omega);replace h5:=h5.mod m6 (fun g hg=>by cases hg;omega);replace ho11:=ho11.mod m6 (fun g hg=>by cases hg;omega);replace hD6:=hD6.mod m6 (fun g hg=>by cases hg;omega)
  have z25:=m6.size
  refine Qd (Qh (Qh (Xk Xd [(0,true),(1,true),(3,true),(4,true),(2,false),(5,false),(6,true),(7,true),(8,true),(9,true),(11,true),(12,true),(10,false),(13,false),(14,true),(15,true),(16,true),(17,true),(18,true),(20,true),(21,true),(19,false),(22,false),(23,true),(24,true),(25,true),(26,true),(27,true),(29,true),(30,true),(28,false),(31,false),(32,true),(33,true)] (by decide +kernel) Z (fun w26 e19=>?_))))
  replace E:=E.trans e19;replace hD1:=hD1.ext e19;replace hD2:=hD2.ext e19;replace h1:=h1.ext e19;replace h2:=h2.ext e19;replace hD3:=hD3.ext e19;replace h3:=h3.ext e19;replace hD4:=hD4.ext e19;replace hD5:=hD5.ext e19;replace h4:=h4.ext e19;replace h5:=h5.ext e19;replace ho11:=ho11.ext e19;replace hD6:=hD6.ext e19;replace h6:=h6.ext e19
  have z26:=e19.size
  refine Qa (Ql Yh Z h3.at Z) Z (Qa (Qb Z) Z (Qa (Ql Yh Z h3.at Z) Z (Qa (Qb Z) Z (Qw Tryz.call15 Z (c_WorkAt [o10,o11,o12,o13,o14,o15,o16,o17] dx3 dx4 _ (Dat.R.any hD3) (by first | omega | (simp;done))) Z (fun _ w27 e20 hv=>?_)))))
  subst hv
  replace E:=E.trans e20;replace hD1:=hD1.ext e20;replace hD2:=hD2.ext e20;replace h1:=h1.ext e20;replace h2:=h2.ext e20;replace hD3:=hD3.ext e20;replace h3:=h3.ext e20;replace hD4:=hD4.ext e20;replace hD5:=hD5.ext e20;replace h4:=h4.ext e20;replace h5:=h5.ext e20;replace ho11:=ho11.ext e20;replace hD6:=hD6.ext e20;replace h6:=h6.ext e20
  have z27:=e20.size
  refine Qw Tryz.call16 Z (s_WorkAt [o10,o11,o12,o13,o14,o15,o16,o17] dx3 dx4 _ (Dat.R.any hD3) (by first | omega | (simp;done))) Z (fun _ w28 e21 hv=>?_)
  subst hv
  replace E:=E.trans e21;replace hD1:=hD1.ext e21;replace hD2:=hD2.ext e21;replace h1:=h1.ext e21;replace h2:=h2.ext e21;replace hD3:=hD3.ext e21;replace h3:=h3.ext e21;replace hD4:=hD4.ext e21;replace hD5:=hD5.ext e21;replace h4:=h4.ext e21;replace h5:=h5.ext e21;replace ho11:=ho11.ext e21;replace hD6:=hD6.ext e21;replace h6:=h6.ext e21
  have z28:=e21.size
  refine Qa (X1 Z Z) Z (Qa (Qb Z) Z (Xr 26 [(0,vcode),(2,.bool false),(3,.pointer (some ⟨b1,0,none⟩)),(5,.pointer (some ⟨b3,0,none⟩)),(6,.int .i64 dx4),(7,.pointer (some ⟨b4,0,none⟩)),(8,.pointer (some ⟨b5,0,none⟩)),(9,v3),(10,.pointer (some ⟨b6,0,none⟩)),(38,.tuple [.agg [o18,o19,o20,o21,o22,o23,o24,o25].toArray,.agg [o26,o27,o28,o29,o30,o31,o32,o33].toArray].toArray),(39,vcode),(40,.tuple [.agg [o18,o19,o20,o21,o22,o23,o24,o25].toArray,.agg [o26,o27,o28,o29,o30,o31,o32,o33].toArray].toArray),(41,.agg [o18,o19,o20,o21,o22,o23,o24,o25].toArray),(42,.agg [o26,o27,o28,o29,o30,o31,o32,o33].toArray),(43,vcode),(44,v3),(45,v3),(46,.agg [o34,o35,o36,o37,o38,o39,o40,o41].toArray),(80,.bool (((((Ul dx3 dx4) != (Ul dx3 dx4)) || (!((Uu dx3 dx4) == (Uu dx3 dx4)))) || (!((Ce dx3 dx4) == (Ce dx3 dx4)))) || (!((decide (dx5 = dx6)) == (decide (dx5 = dx6))))))] (fun w'=>Ext w w' ∧ w28.heap.size ≤ w'.heap.size ∧ Dat.R w' w1.heap.size w2.heap.size [o1,.int .i64 dx1.workers,.int .i64 dx1.cap] dx1 ∧ Dat.R w' w1.heap.size w2.heap.size [o2,o3,o4,o5,o6,o7,o8,o9] dx2 ∧ Blk w' b1 [o1,.int .i64 dx1.workers,.int .i64 dx1.cap] ∧ Blk w' b2 [o2,o3,o4,o5,o6,o7,o8,o9] ∧ Dat.R w' w10.heap.size w14.heap.size [o10,o11,o12,o13,o14,o15,o16,o17] dx3 ∧ Blk w' b3 [o10,o11,o12,o13,o14,o15,o16,o17] ∧ Dat.R w' w16.heap.size w17.heap.size [o18,o19,o20,o21,o22,o23,o24,o25] dx5 ∧ Dat.R w' w16.heap.size w17.heap.size [o26,o27,o28,o29,o30,o31,o32,o33] dx6 ∧ Blk w' b4 [o18,o19,o20,o21,o22,o23,o24,o25] ∧ Blk w' b5 [o26,o27,o28,o29,o30,o31,o32,o33] ∧ Own w' w21.heap.size w22.heap.size 5 v3 (List.flatMap (Enc.enc (α:=Record)) dx7) ∧ Dat.R w' w22.heap.size w23.heap.size [o34,o35,o36,o37,o38,o39,o40,o41] (Yk dx7) ∧ Blk w' b6 [o34,o35,o36,o37,o38,o39,o40,o41]) ?_ ?_))
  ·refine Yz (gd:=54) Z Z (fun hg2=>?_) (fun hg2=>?_)
   ·exact absurd hg2 (by first | (simp;done) | (simp only [Qq] <;> simp) | (simp only [Q1,Qq] <;> simp) | (simp only [Q1] <;> simp))
   ·refine Qm Z Z (Ql Yh Z h3.at Z) Z (Qm Z Z (Qb Z) Z (Qm Z Z (Ql Yh Z h3.at Z) Z (Qm Z Z (Qb Z) Z ?_)))
    refine Xa Z Z ?_
    refine Qw Tryz.call17 Z (c_OpenAt [o10,o11,o12,o13,o14,o15,o16,o17] dx3 dx4 _ (Dat.R.any hD3)) Z (fun _ w30 e22 hv=>?_)
    subst hv
    replace E:=E.trans e22;replace hD1:=hD1.ext e22;replace hD2:=hD2.ext e22;replace h1:=h1.ext e22;replace h2:=h2.ext e22;replace hD3:=hD3.ext e22;replace h3:=h3.ext e22;replace hD4:=hD4.ext e22;replace hD5:=hD5.ext e22;replace h4:=h4.ext e22;replace h5:=h5.ext e22;replace ho11:=ho11.ext e22;replace hD6:=hD6.ext e22;replace h6:=h6.ext e22
    have z29:=e22.size
    refine Xa Z Z ?_
    refine Qw Tryz.call18 Z (s_OpenAt [o10,o11,o12,o13,o14,o15,o16,o17] dx3 dx4 _ (Dat.R.any hD3)) Z (fun _ w31 e23 hv=>?_)
    subst hv
    replace E:=E.trans e23;replace hD1:=hD1.ext e23;replace hD2:=hD2.ext e23;replace h1:=h1.ext e23;replace h2:=h2.ext e23;replace hD3:=hD3.ext e23;replace h3:=h3.ext e23;replace hD4:=hD4.ext e23;replace hD5:=hD5.ext e23;replace h4:=h4.ext e23;replace h5:=h5.ext e23;replace ho11:=ho11.ext e23;replace hD6:=hD6.ext e23;replace h6:=h6.ext e23
    have z30:=e23.size
    refine Qm Z Z (Tk (Tryz.underlying4) Z Z) Z (Qa (Qp Z Z) Z (Qa (Qb Z) Z ?_))
    refine Yz (gd:=63) Z Z (fun hg3=>?_) (fun hg3=>?_)
    ·exact absurd hg3 (by first | (simp;done) | (simp only [Qq] <;> simp) | (simp only [Q1,Qq] <;> simp) | (simp only [Q1] <;> simp))
    ·refine Qm Z Z (Ql Yh Z h3.at Z) Z (Qm Z Z (Qb Z) Z (Qm Z Z (Ql Yh Z h3.at Z) Z (Qm Z Z (Qb Z) Z ?_)))
     refine Xa Z Z ?_
     refine Qw Tryz.call19 Z (c_IsDone [o10,o11,o12,o13,o14,o15,o16,o17] dx3 dx4 _ (Dat.R.any hD3)) Z (fun _ w32 e24 hv=>?_)
     subst hv
     replace E:=E.trans e24;replace hD1:=hD1.ext e24;replace hD2:=hD2.ext e24;replace h1:=h1.ext e24;replace h2:=h2.ext e24;replace hD3:=hD3.ext e24;replace h3:=h3.ext e24;replace hD4:=hD4.ext e24;replace hD5:=hD5.ext e24;replace h4:=h4.ext e24;replace h5:=h5.ext e24;replace ho11:=ho11.ext e24;replace hD6:=hD6.ext e24;replace h6:=h6.ext e24
     have z31:=e24.size
     refine Xa Z Z ?_
     refine Qw Tryz.call20 Z (s_IsDone [o10,o11,o12,o13,o14,o15,o16,o17] dx3 dx4 _ (Dat.R.any hD3)) Z (fun _ w33 e25 hv=>?_)
     subst hv
     replace E:=E.trans e25;replace hD1:=hD1.ext e25;replace hD2:=hD2.ext e25;replace h1:=h1.ext e25;replace h2:=h2.ext e25;replace hD3:=hD3.ext e25;replace h3:=h3.ext e25;replace hD4:=hD4.ext e25;replace hD5:=hD5.ext e25;replace h4:=h4.ext e25;replace h5:=h5.ext e25;replace ho11:=ho11.ext e25;replace hD6:=hD6.ext e25;replace h6:=h6.ext e25
     have z32:=e25.size
     refine Qm Z Z (Tk (Tryz.underlying4) Z Z) Z (Qa (Qp Z Z) Z (Qa (Qb Z) Z ?_))
     refine Yz (gd:=72) Z Z (fun hg4=>?_) (fun hg4=>?_)
     ·exact absurd hg4 (by first | (simp;done) | (simp only [Qq] <;> simp) | (simp only [Q1,Qq] <;> simp) | (simp only [Q1] <;> simp))
     ·refine Qm Z Z (Ql Yh Z h4.at Z) Z (Qm Z Z (Ql Yh Z h5.at Z) Z (Qm Z Z (Ql Yh Z h4.at Z) Z (Qm Z Z (Ql Yh Z h5.at Z) Z ?_)))
      refine Xa Z Z ?_
      refine Qw Tryz.call21 Z (c_SameWorker [o18,o19,o20,o21,o22,o23,o24,o25] dx5 [o26,o27,o28,o29,o30,o31,o32,o33] dx6 _ (Dat.R.any hD4) (Dat.R.any hD5)) Z (fun _ w34 e26 hv=>?_)
      subst hv
      replace E:=E.trans e26;replace hD1:=hD1.ext e26;replace hD2:=hD2.ext e26;replace h1:=h1.ext e26;replace h2:=h2.ext e26;replace hD3:=hD3.ext e26;replace h3:=h3.ext e26;replace hD4:=hD4.ext e26;replace hD5:=hD5.ext e26;replace h4:=h4.ext e26;replace h5:=h5.ext e26;replace ho11:=ho11.ext e26;replace hD6:=hD6.ext e26;replace h6:=h6.ext e26
      have z33:=e26.size
      refine Xa Z Z ?_
      refine Qw Tryz.call22 Z (l_sameWorker [o18,o19,o20,o21,o22,o23,o24,o25] dx5 [o26,o27,o28,o29,o30,o31,o32,o33] dx6 _ (Dat.R.any hD4) (Dat.R.any hD5)) Z (fun _ w35 e27 hv=>?_)
      subst hv
      replace E:=E.trans e27;replace hD1:=hD1.ext e27;replace hD2:=hD2.ext e27;replace h1:=h1.ext e27;replace h2:=h2.ext e27;replace hD3:=hD3.ext e27;replace h3:=h3.ext e27;replace hD4:=hD4.ext e27;replace hD5:=hD5.ext e27;replace h4:=h4.ext e27;replace h5:=h5.ext e27;replace ho11:=ho11.ext e27;replace hD6:=hD6.ext e27;replace h6:=h6.ext e27
      have z34:=e27.size
      refine Qm Z Z (Tk (Tryz.underlying4) Z Z) Z (Qa (Qp Z Z) Z (Qn ⟨Z,Z,Z,Z,Z,Z,Z,Z,Z,Z,Z,Z,Z,Z,Z,Z,Z,Z,congrArg (fun b=>some (Value.bool b)) (show (!((decide (dx5 = dx6)) == (decide (dx5 = dx6)))) = (((((Ul dx3 dx4) != (Ul dx3 dx4)) || (!((Uu dx3 dx4) == (Uu dx3 dx4)))) || (!((Ce dx3 dx4) == (Ce dx3 dx4)))) || (!((decide (dx5 = dx6)) == (decide (dx5 = dx6))))) by first | (rw [hg2,hg3,hg4] <;> rfl) | (simp [hg2,hg3,hg4];done) | (simp only [Qq] <;> simp)),trivial⟩ ⟨E,(by omega),hD1,hD2,h1,h2,hD3,h3,hD4,hD5,h4,h5,ho11,hD6,h6⟩))
  clear E hD1 hD2 h1 h2 hD3 h3 hD4 hD5 h4 h5 ho11 hD6 h6
  rintro w29 ⟨E,z35,hD1,hD2,h1,h2,hD3,h3,hD4,hD5,h4,h5,ho11,hD6,h6⟩
  refine Qd (S_condFe Z (by first | (simp;done) | (simp only [Qq] <;> simp) | (simp only [Q1,Qq] <;> simp) | (simp only [Q1] <;> simp)) (Qy (Qh ?_)))
  clear hD2 h2 hD4 hD5 h4 h5
  refine Yb [(2,.bool false),(3,.pointer (some ⟨b1,0,none⟩)),(5,.pointer (some ⟨b3,0,none⟩)),(6,.int .i64 dx4),(9,v3),(10,.pointer (some ⟨b6,0,none⟩))] ⟨Z,Z,Z,Z,Z,Z,trivial⟩ ?_
  refine Xk Xd [(0,true),(1,true),(3,true),(4,true),(2,false),(5,false),(6,true),(7,true),(8,true),(9,true),(10,false),(11,true),(12,true),(13,true),(14,true),(15,true),(16,true),(17,true),(18,false),(19,true),(20,true),(21,true),(22,true),(23,true),(24,true),(25,true),(26,true),(27,true),(28,true),(29,true),(30,true),(31,true),(32,true),(33,true),(34,false),(35,false),(36,true),(37,true)] (by decide +kernel) Z (fun w36 e28=>?_)
  replace E:=E.trans e28;replace hD1:=hD1.ext e28;replace h1:=h1.ext e28;replace hD3:=hD3.ext e28;replace h3:=h3.ext e28;replace ho11:=ho11.ext e28;replace hD6:=hD6.ext e28;replace h6:=h6.ext e28
  have z36:=e28.size
  refine Qa (Ql Yh Z h3.at Z) Z (Qa (Qb Z) Z (Qa (Ql Yh Z h3.at Z) Z (Qa (Qb Z) Z (Qw Tryz.call23 Z (c_PassiveAt [o10,o11,o12,o13,o14,o15,o16,o17] dx3 dx4 _ (Dat.R.any hD3) (by first | omega | (simp;done))) Z (fun _ w37 e29 hv=>?_)))))
  subst hv
  replace E:=E.trans e29;replace hD1:=hD1.ext e29;replace h1:=h1.ext e29;replace hD3:=hD3.ext e29;replace h3:=h3.ext e29;replace ho11:=ho11.ext e29;replace hD6:=hD6.ext e29;replace h6:=h6.ext e29
  have z37:=e29.size
  refine Qw Tryz.call18 Z (s_OpenAt [o10,o11,o12,o13,o14,o15,o16,o17] dx3 dx4 _ (Dat.R.any hD3)) Z (fun _ w38 e30 hv=>?_)
  subst hv
  replace E:=E.trans e30;replace hD1:=hD1.ext e30;replace h1:=h1.ext e30;replace hD3:=hD3.ext e30;replace h3:=h3.ext e30;replace ho11:=ho11.ext e30;replace hD6:=hD6.ext e30;replace h6:=h6.ext e30
  have z38:=e30.size
  refine Qa (Xn Z) Z (Qa (Qb Z) Z (Xr 29 [(2,.bool false),(3,.pointer (some ⟨b1,0,none⟩)),(5,.pointer (some ⟨b3,0,none⟩)),(6,.int .i64 dx4),(9,v3),(10,.pointer (some ⟨b6,0,none⟩)),(117,.bool ((((((!Uu dx3 dx4 && (Ul dx3 dx4 == 0)) == ((!(Uu dx3 dx4)) && ((Ul dx3 dx4) == 0))) && (decide (((Yk dx7).inputs) = dx7))) && (((((Yk dx7).sums).length : Nat) : Int) == 4)) && (((((Yk dx7).queue).length : Nat) : Int) == 0)) && (Yv dx1 (Yk []))))] (fun w'=>Ext w w' ∧ w38.heap.size ≤ w'.heap.size ∧ Dat.R w' w1.heap.size w2.heap.size [o1,.int .i64 dx1.workers,.int .i64 dx1.cap] dx1 ∧ Blk w' b1 [o1,.int .i64 dx1.workers,.int .i64 dx1.cap] ∧ Dat.R w' w10.heap.size w14.heap.size [o10,o11,o12,o13,o14,o15,o16,o17] dx3 ∧ Blk w' b3 [o10,o11,o12,o13,o14,o15,o16,o17] ∧ Own w' w21.heap.size w22.heap.size 5 v3 (List.flatMap (Enc.enc (α:=Record)) dx7) ∧ Dat.R w' w22.heap.size w23.heap.size [o34,o35,o36,o37,o38,o39,o40,o41] (Yk dx7) ∧ Blk w' b6 [o34,o35,o36,o37,o38,o39,o40,o41]) ?_ ?_))
  ·refine Yz (gd:=88) Z Z (fun hg5=>?_) (fun hg5=>?_)
   ·refine Qm Z Z (Ql Yh Z h3.at Z) Z (Qm Z Z (Qb Z) Z ?_)
    refine Xa Z Z ?_
    refine Qw Tryz.call16 Z (s_WorkAt [o10,o11,o12,o13,o14,o15,o16,o17] dx3 dx4 _ (Dat.R.any hD3) (by first | omega | (simp;done))) Z (fun _ w40 e31 hv=>?_)
    subst hv
    replace E:=E.trans e31;replace hD1:=hD1.ext e31;replace h1:=h1.ext e31;replace hD3:=hD3.ext e31;replace h3:=h3.ext e31;replace ho11:=ho11.ext e31;replace hD6:=hD6.ext e31;replace h6:=h6.ext e31
    have z39:=e31.size
    refine Qm Z Z (Y9 Z Z) Z (Qa (Qr Z Z) Z (Qa (R_eqlB (Tryz.underlying4) Z Z) Z (Qa (Qb Z) Z ?_)))
    refine Yz (gd:=95) Z Z (fun hg6=>?_) (fun hg6=>?_)
    ·refine Qm Z Z (Qf X5 Z) Z (Qm Z Z (Qk Xv Z (h6.one 2 Z)) Z (Qm Z Z (Qb Z) Z ?_))
     refine Xa Z Z ?_
     refine Qw Tryz.call24 Z (l_sameRecords o36 ((Yk dx7).inputs) v3 dx7 _ (Worker.opD hD6).2.2.1.rd (Own.rd (by decide) ho11)) Z (fun _ w41 e32 hv=>?_)
     subst hv
     replace E:=E.trans e32;replace hD1:=hD1.ext e32;replace h1:=h1.ext e32;replace hD3:=hD3.ext e32;replace h3:=h3.ext e32;replace ho11:=ho11.ext e32;replace hD6:=hD6.ext e32;replace h6:=h6.ext e32
     have z40:=e32.size
     refine Qa (Qr Z Z) Z (Qa (Qb Z) Z (Yz (gd:=101) Z Z (fun hg7=>?_) (fun hg7=>?_)))
     ·refine Qm Z Z (Qf Un Z) Z (Qm Z Z (Qk Uc Z (h6.one 4 Z)) Z (Qm Z Z (Ye Tryz.underlying29 Z (Worker.opD hD6).2.2.2.2.1.len) Z (Qm Z Z (Y9 Z Z) Z (Qa (Qr Z Z) Z (Qa (Qb Z) Z ?_)))))
      refine Yz (gd:=107) Z Z (fun hg8=>?_) (fun hg8=>?_)
      ·have hg8n : ((Yk dx7).sums).length = 4:=by first | (have h:=of_decide_eq_true hg8;omega) | (have h:=hg8;simp at h;omega)
       refine Qm Z Z (Qf Kf Z) Z (Qm Z Z (Qk Xv Z (h6.one 0 Z)) Z (Qm Z Z (Ye Tryz.underlying27 Z (Worker.opD hD6).1.len) Z (Qm Z Z (Y9 Z Z) Z (Qa (Qr Z Z) Z (Qa (Qb Z) Z ?_)))))
       refine Yz (gd:=113) Z Z (fun hg9=>?_) (fun hg9=>?_)
       ·have hg9n : ((Yk dx7).queue).length = 0:=by first | (have h:=of_decide_eq_true hg9;omega) | (have h:=hg9;simp at h;omega)
        refine Qm Z Z (Ql Xz Z h1.at Z) Z ?_
        refine Xa Z Z ?_
        refine Qw Tryz.call14 Z (c_WorkerNew (.slice none 0 0) [] _ (RdS.nil _) (by first | omega | (simp;done))) Z (fun _ w42 e33 ho13=>?_)
        obtain ⟨_,rfl,ho13⟩:=ho13
        have g_ho13 : w.heap.size ≤ w41.heap.size:=E.size
        replace E:=E.trans e33;replace hD1:=hD1.ext e33;replace h1:=h1.ext e33;replace hD3:=hD3.ext e33;replace h3:=h3.ext e33;replace ho11:=ho11.ext e33;replace hD6:=hD6.ext e33;replace h6:=h6.ext e33
        have z41:=e33.size
        have hD7:=Own1.rd ho13
        obtain ⟨o42,o43,o44,o45,o46,o47,o48,o49,rfl,_,_,_,_,_,_,_,_⟩:=Worker.op hD7
        clear ho13
        refine Xa Z Z ?_
        refine Qw Tryz.call6 Z (c_WorkerOk [o1,.int .i64 dx1.workers,.int .i64 dx1.cap] dx1 [o42,o43,o44,o45,o46,o47,o48,o49] (Yk []) _ (Dat.R.any hD1) (Dat.R.any hD7)) Z (fun _ w43 e34 hv=>?_)
        subst hv
        replace E:=E.trans e34;replace hD1:=hD1.ext e34;replace h1:=h1.ext e34;replace hD3:=hD3.ext e34;replace h3:=h3.ext e34;replace ho11:=ho11.ext e34;replace hD6:=hD6.ext e34;replace h6:=h6.ext e34;replace hD7:=hD7.ext e34
        have z42:=e34.size
        refine Qa (Qr Z Z) Z (Qn ⟨Z,Z,Z,Z,Z,Z,congrArg (fun b=>some (Value.bool b)) (show (Yv dx1 (Yk [])) = ((((((!Uu dx3 dx4 && (Ul dx3 dx4 == 0)) == ((!(Uu dx3 dx4)) && ((Ul dx3 dx4) == 0))) && (decide (((Yk dx7).inputs) = dx7))) && (((((Yk dx7).sums).length : Nat) : Int) == 4)) && (((((Yk dx7).queue).length : Nat) : Int) == 0)) && (Yv dx1 (Yk []))) by first | (rw [hg5,hg6,hg7,hg8,hg9] <;> rfl) | (simp [hg5,hg6,hg7,hg8,hg9];done) | (simp only [Qq] <;> simp)),trivial⟩ ⟨E,(by omega),hD1,h1,hD3,h3,ho11,hD6,h6⟩)
       ·exact absurd hg9 (by simp [Yk])
      ·exact absurd hg8 (by simp [Yk])
     ·exact absurd hg7 (by simp [Yk])
    ·exact absurd hg6 (by have h:=hg5;simp at h;simp [h])
   ·refine Qc Z Z Z Z (Qc Z Z Z Z ?_)
    refine Q3 Z Z Z Z ?_
    refine Qc Z Z Z Z (Qa (Qp Z Z) Z (Qa (R_eqlB (Tryz.underlying4) Z Z) Z (Qa (Qb Z) Z ?_)))
    refine Yz (gd:=95) Z Z (fun hg10=>?_) (fun hg10=>?_)
    ·refine Qm Z Z (Qf X5 Z) Z (Qm Z Z (Qk Xv Z (h6.one 2 Z)) Z (Qm Z Z (Qb Z) Z ?_))
     refine Xa Z Z ?_
     refine Qw Tryz.call24 Z (l_sameRecords o36 ((Yk dx7).inputs) v3 dx7 _ (Worker.opD hD6).2.2.1.rd (Own.rd (by decide) ho11)) Z (fun _ w44 e35 hv=>?_)
     subst hv
     replace E:=E.trans e35;replace hD1:=hD1.ext e35;replace h1:=h1.ext e35;replace hD3:=hD3.ext e35;replace h3:=h3.ext e35;replace ho11:=ho11.ext e35;replace hD6:=hD6.ext e35;replace h6:=h6.ext e35
     have z43:=e35.size
     refine Qa (Qr Z Z) Z (Qa (Qb Z) Z (Yz (gd:=101) Z Z (fun hg11=>?_) (fun hg11=>?_)))
     ·refine Qm Z Z (Qf Un Z) Z (Qm Z Z (Qk Uc Z (h6.one 4 Z)) Z (Qm Z Z (Ye Tryz.underlying29 Z (Worker.opD hD6).2.2.2.2.1.len) Z (Qm Z Z (Y9 Z Z) Z (Qa (Qr Z Z) Z (Qa (Qb Z) Z ?_)))))
      refine Yz (gd:=107) Z Z (fun hg12=>?_) (fun hg12=>?_)
      ·have hg12n : ((Yk dx7).sums).length = 4:=by first | (have h:=of_decide_eq_true hg12;omega) | (have h:=hg12;simp at h;omega)
       refine Qm Z Z (Qf Kf Z) Z (Qm Z Z (Qk Xv Z (h6.one 0 Z)) Z (Qm Z Z (Ye Tryz.underlying27 Z (Worker.opD hD6).1.len) Z (Qm Z Z (Y9 Z Z) Z (Qa (Qr Z Z) Z (Qa (Qb Z) Z ?_)))))
       refine Yz (gd:=113) Z Z (fun hg13=>?_) (fun hg13=>?_)
       ·have hg13n : ((Yk dx7).queue).length = 0:=by first | (have h:=of_decide_eq_true hg13;omega) | (have h:=hg13;simp at h;omega)
        refine Qm Z Z (Ql Xz Z h1.at Z) Z ?_
        refine Xa Z Z ?_
        refine Qw Tryz.call14 Z (c_WorkerNew (.slice none 0 0) [] _ (RdS.nil _) (by first | omega | (simp;done))) Z (fun _ w45 e36 ho14=>?_)
        obtain ⟨_,rfl,ho14⟩:=ho14
        have g_ho14 : w.heap.size ≤ w44.heap.size:=E.size
        replace E:=E.trans e36;replace hD1:=hD1.ext e36;replace h1:=h1.ext e36;replace hD3:=hD3.ext e36;replace h3:=h3.ext e36;replace ho11:=ho11.ext e36;replace hD6:=hD6.ext e36;replace h6:=h6.ext e36
        have z44:=e36.size
        have hD8:=Own1.rd ho14
        obtain ⟨o50,o51,o52,o53,o54,o55,o56,o57,rfl,_,_,_,_,_,_,_,_⟩:=Worker.op hD8
        clear ho14
        refine Xa Z Z ?_
        refine Qw Tryz.call6 Z (c_WorkerOk [o1,.int .i64 dx1.workers,.int .i64 dx1.cap] dx1 [o50,o51,o52,o53,o54,o55,o56,o57] (Yk []) _ (Dat.R.any hD1) (Dat.R.any hD8)) Z (fun _ w46 e37 hv=>?_)
        subst hv
        replace E:=E.trans e37;replace hD1:=hD1.ext e37;replace h1:=h1.ext e37;replace hD3:=hD3.ext e37;replace h3:=h3.ext e37;replace ho11:=ho11.ext e37;replace hD6:=hD6.ext e37;replace h6:=h6.ext e37;replace hD8:=hD8.ext e37
        have z45:=e37.size
        refine Qa (Qr Z Z) Z (Qn ⟨Z,Z,Z,Z,Z,Z,congrArg (fun b=>some (Value.bool b)) (show (Yv dx1 (Yk [])) = ((((((!Uu dx3 dx4 && (Ul dx3 dx4 == 0)) == ((!(Uu dx3 dx4)) && ((Ul dx3 dx4) == 0))) && (decide (((Yk dx7).inputs) = dx7))) && (((((Yk dx7).sums).length : Nat) : Int) == 4)) && (((((Yk dx7).queue).length : Nat) : Int) == 0)) && (Yv dx1 (Yk []))) by first | (rw [hg5,hg10,hg11,hg12,hg13] <;> rfl) | (simp [hg5,hg10,hg11,hg12,hg13];done) | (simp only [Qq] <;> simp)),trivial⟩ ⟨E,(by omega),hD1,h1,hD3,h3,ho11,hD6,h6⟩)
       ·exact absurd hg13 (by simp [Yk])
      ·exact absurd hg12 (by simp [Yk])
     ·exact absurd hg11 (by simp [Yk])
    ·exact absurd hg10 (by have h:=hg5;simp at h;simp [h])
  clear E hD1 h1 hD3 h3 ho11 hD6 h6
  rintro w39 ⟨E,z46,hD1,h1,hD3,h3,ho11,hD6,h6⟩
  refine Qa (Qe Z) Z (Qd (Qx (Qu Z Z E ?_)))
  exact congrArg Value.bool ws_fin

end Go.Proofs.YtcpjlfikdobckaaGreat
