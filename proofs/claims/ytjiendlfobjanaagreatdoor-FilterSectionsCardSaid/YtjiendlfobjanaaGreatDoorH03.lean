/-
  A part of the proof: W14, W15, Poly, W16, Poly2, Range, W17, W18, W19, W20, AppE, W21, W22, Chain, W23, Chain2, W24, W25, W26, W27, W28, W29.
-/
import Derived.Test.YtjiendlfobjanaaGreatDoorH02
import Derived.ChangeKeysEq
import Derived.Laws.Cover3
import Derived.Laws.StructEq
import Derived.RangeFuncKeeps
import Derived.RangeFuncLeaves
namespace Go.Proofs.YtjiendlfobjanaaGreatDoor
open Go Go.RowKit Go.Proofs Tryz
set_option maxRecDepth 10000
set_option maxHeartbeats 2000000
attribute [local irreducible] Runs WPE CallK Ret
variable {n:Nat} {q:Rat} {s:Bool} {u v:Value} {w:World}
theorem zBP (a b:Nat):(a*b).log2≤a.log2+b.log2+1:=by
 by_cases h0:a*b=0
 · rw [h0];exact Nat.zero_le _
 · have ha:a≠0:=fun e=>h0 (by rw [e,Nat.zero_mul]);have hb:b≠0:=fun e=>h0 (by rw [e,Nat.mul_zero]);have h1:=(Nat.log2_lt ha).1 (Nat.lt_succ_self _);have h2:=(Nat.log2_lt hb).1 (Nat.lt_succ_self _);have h3:a*b<2^(a.log2+1)*2^(b.log2+1):=Nat.mul_lt_mul'' h1 h2;rw [← Nat.pow_add] at h3;have:=(Nat.log2_lt h0).2 h3;omega
theorem zHm (a b:Nat):(a+b).log2≤max a.log2 b.log2+1:=by
 by_cases h0:a+b=0
 · rw [h0];exact Nat.zero_le _
 · have h1:∀ n L:Nat,n.log2≤L→n<2^(L+1):=fun n L h=>by
    by_cases hn:n=0
    · rw [hn];exact Nat.pow_pos (by decide)
    · exact (Nat.log2_lt hn).1 (by omega)
   have h2:=h1 a (max a.log2 b.log2) (Nat.le_max_left _ _);have h3:=h1 b (max a.log2 b.log2) (Nat.le_max_right _ _);have h4:a+b<2^(max a.log2 b.log2+1+1):=by rw [Nat.pow_succ 2 (max a.log2 b.log2+1)];omega
   have:=(Nat.log2_lt h0).2 h4;omega
theorem room_of {x y:Rat} (h:rroom x y=true):x.num.natAbs.log2+x.den.log2+(y.num.natAbs.log2+y.den.log2)<1099511627776:=of_decide_eq_true h
theorem zDD (h:n.log2<8796093022208):Fit n:=h
structure Fits (x y:Rat):Prop where
 xn:Fit x.num.natAbs
 xd:Fit x.den
 yn:Fit y.num.natAbs
 yd:Fit y.den
 nn:Fit (x.num.natAbs*y.num.natAbs)
 nd:Fit (x.num.natAbs*y.den)
 dn:Fit (x.den*y.num.natAbs)
 dd:Fit (x.den*y.den)
 nd':Fit (y.num.natAbs*x.den)
 add:Fit (x.num.natAbs*y.den+y.num.natAbs*x.den)
theorem zGJ {x y:Rat} (h:rroom x y=true):Fits x y:=by
 have h0:=room_of h;have k1:=zBP x.num.natAbs y.num.natAbs;have k2:=zBP x.num.natAbs y.den;have k3:=zBP x.den y.num.natAbs;have k4:=zBP x.den y.den;have k5:=zBP y.num.natAbs x.den;have k6:=zHm (x.num.natAbs*y.den) (y.num.natAbs*x.den);exact ⟨zDD (by omega),zDD (by omega),zDD (by omega),zDD (by omega),zDD (by omega),zDD (by omega),zDD (by omega),zDD (by omega),zDD (by omega),zDD (by omega)⟩
theorem IsNum.form (h:IsNum w v q):∃ p1 l1 k1 p2 l2 k2,v = .agg #[.bool (decide (q<0)),.slice p1 l1 k1,.slice p2 l2 k2]∧(l1=0↔q=0)∧(l2=0↔q.den=1)∧IsW w (.slice p1 l1 k1) q.num.natAbs∧IsW w (.slice p2 l2 k2) (if q.den=1 then 0 else q.den):=by
 obtain ⟨n,d,rfl,h1,h2⟩:=h;obtain ⟨p1,l1,k1,rfl,e1⟩:=h1.form;obtain ⟨p2,l2,k2,rfl,e2⟩:=h2.form;refine ⟨p1,l1,k1,p2,l2,k2,rfl,?_,?_,h1,h2⟩
 · rw [e1,Int.natAbs_eq_zero,Rat.num_eq_zero]
 · rw [e2];have:=q.den_pos;by_cases h:q.den=1
   · simp [h]
   · simp [h];omega
theorem zHg (x:Rat):decide (-x<0)=(!decide (x<0)&&decide (x≠0)):=by
 have h1:=zBr x;have h2:=zBr (-x);rw [Rat.neg_num] at h2;have h3:x≠0↔x.num≠0:=not_congr Rat.num_eq_zero.symm;by_cases a:x.num<0
 · rw [decide_eq_true (h1.2 a),decide_eq_false (fun e=>by have:=h2.1 e;omega)];rfl
 · rw [decide_eq_false (fun e=>a (h1.1 e))];by_cases b:x.num=0
   · rw [decide_eq_false (fun e=>by have:=h2.1 e;omega),decide_eq_false (fun e=>(h3.1 e) b)];rfl
   · rw [decide_eq_true (h2.2 (by omega)),decide_eq_true (h3.2 b)];rfl
theorem IsNum.neg_mk {n d:Value} {x:Rat} (hs:s=(!decide (x<0)&&decide (x≠0))) (hn:IsW w n x.num.natAbs) (hd:IsW w d (if x.den=1 then 0 else x.den)):IsNum w (.agg #[.bool s,n,d]) (-x) :=
 ⟨n,d,by rw [zHg,hs],by rw [Rat.neg_num,Int.natAbs_neg];exact hn,by rw [Rat.neg_den];exact hd⟩
theorem rabs_neg (x:Rat):decide (rabs x<0)=false:=by
 have h1:=zBr x;unfold rabs;by_cases h:x<0
 · rw [if_pos h,zHg,decide_eq_true h];rfl
 · rw [if_neg h,decide_eq_false h]
theorem zLe (x:Rat):(rabs x).num.natAbs=x.num.natAbs∧(rabs x).den=x.den:=by
 unfold rabs;by_cases h:x<0
 · rw [if_pos h,Rat.neg_num,Int.natAbs_neg,Rat.neg_den];exact ⟨rfl,rfl⟩
 · rw [if_neg h];exact ⟨rfl,rfl⟩
theorem zLE (n:Int):qOf (decide (n<0)) n.natAbs 1=(n:Rat):=by
 have e:sgn (decide (n<0)) n.natAbs=n:=by
  by_cases h:n<0
  · rw [decide_eq_true h];simp only [sgn,if_true];omega
  · rw [decide_eq_false h];simp only [sgn,Bool.false_eq_true,if_false];omega
 rw [qOf,e];exact Rat.mkRat_self (n:Rat)
theorem zJS:Fit 1:=zDD (by decide +kernel)
theorem Sign_ok {x:Rat} (hx:IsNum w v x):Ret prog 19 #[v] w (fun u _=>u = .int .i64 (rsign x)):=by
 obtain ⟨p1,l1,k1,p2,l2,k2,rfl,hz1,hz2,hxn,hxd⟩:=hx.form;refine J0 11 func19 rfl (rj fun K => ?_);refine K1 (zt fun b1 w1 hb hE hB1 hs => ?_);have hgb1:w.heap.size≤b1:=by rw [hb];exact E0.size
 replace E0:=E0.trans hE;clear hE hs hb;refine ag (rm [1] K ?_);refine zA (zF (zA ?_));rcases (show x=0∨(x≠0∧x<0)∨(x≠0∧¬ x<0) from by by_cases a:x=0;exact Or.inl a;by_cases b:x<0;exact Or.inr (Or.inl ⟨a,b⟩);exact Or.inr (Or.inr ⟨a,b⟩)) with h1 | ⟨h1,h2⟩ | ⟨h1,h2⟩
 · obtain rfl:=hz1.2 h1;refine K6 fun K=>K1 (zB zCJ rfl (K1 (zD zAb rfl hB1 rfl (K1 (zI zd rfl (K8 rfl (ag (rs [1,3] K ?_))))))));refine wct rfl (rj fun K=>ag (rm [2] K ?_));refine zE (zZ (zU (zQ ?_)));exact ⟨rfl,_,zj rfl rfl,E0,by rw [h1];rfl⟩
 · have hl:l1≠0:=fun e=>h1 (hz1.1 e);refine K6 fun K=>K1 (zB zCJ rfl (K1 (zD zAb rfl hB1 rfl (K1 (zI zd rfl (K8 rfl (ag (rs [1,3] K ?_))))))));refine wcf (congrArg Value.bool (beq_eq_false_iff_ne.2 (by omega))) (rj fun K=>K1 (zB zDC rfl (K1 (zD zCg rfl hB1 rfl (ag (rm [8] K ?_))))));refine wct (congrArg Value.bool (decide_eq_true h2)) (rj fun K=>ag (rm [2] K ?_));refine zE (zZ (zU (zQ ?_)));exact ⟨rfl,_,zj rfl rfl,E0,by rw [rsign,Int.sign_eq_neg_one_of_neg ((zBr x).1 h2)];rfl⟩
 · have hl:l1≠0:=fun e=>h1 (hz1.1 e);refine K6 fun K=>K1 (zB zCJ rfl (K1 (zD zAb rfl hB1 rfl (K1 (zI zd rfl (K8 rfl (ag (rs [1,3] K ?_))))))));refine wcf (congrArg Value.bool (beq_eq_false_iff_ne.2 (by omega))) (rj fun K=>K1 (zB zDC rfl (K1 (zD zCg rfl hB1 rfl (ag (rm [8] K ?_))))));refine wcf (congrArg Value.bool (decide_eq_false h2)) (zp (zR (zM (rj fun K=>ag (rm [2] K ?_)))));refine zE (zQ ?_);exact ⟨rfl,_,zj rfl rfl,E0,by rw [rsign,Int.sign_eq_one_of_pos (by have k1:=zBr x;have k2:x.num≠0:=fun e=>h1 (Rat.num_eq_zero.1 e);have k3:¬ x.num<0:=fun e=>h2 (k1.2 e);omega)];rfl⟩
theorem zMu {x:Rat} (hx:IsNum w v x):Ret prog 236 #[v] w (fun u w'=>IsNum w' u (rabs x)):=by
 obtain ⟨p1,l1,k1,p2,l2,k2,rfl,hz1,hz2,hxn,hxd⟩:=hx.form;refine J0 8 func236 rfl (rj fun K => ?_);refine K1 (zt fun b1 w1 hb hE hB1 hs => ?_);have hgb1:w.heap.size≤b1:=by rw [hb];exact E0.size
 replace E0:=E0.trans hE;replace hxn:=hxn.ext hE;replace hxd:=hxd.ext hE;clear hE hs hb;refine K1 (zV zAY fun b2 w2 hb hE hB2 hs => ?_);have hgb2:w.heap.size≤b2:=by rw [hb];exact E0.size
 have ne_b1_b2:b1≠b2:=by have:=hB1.lt;omega
 replace E0:=E0.trans hE;replace hxn:=hxn.ext hE;replace hxd:=hxd.ext hE;replace hB1:=hB1.ext hE;clear hE hs hb;refine rm [1,2] K ?_;refine rj fun K=>K1 (zB zCJ rfl (K1 (zD zAb rfl hB1 rfl (K1 (zB zEa rfl (K1 (zD zAb rfl hB1 rfl (K1 (zT (cs := #[.bool false,.slice p1 l1 k1,.slice p2 l2 k2]) (by kernel_rfl) ?_)))))))));refine K1 (zN rfl (⟨.slice p1 l1 k1,.slice p2 l2 k2,by rw [rabs_neg];rfl,by rw [(zLe x).1];exact hxn,by rw [(zLe x).2];exact hxd⟩:IsNum _ _ (rabs x)) (Cell3.of hB2 rfl) fun _ w9 hU hN => ?_);replace E0:=E0.upd hU hgb2;obtain ⟨cs,hB4,hl4,hN4⟩:=hN;refine rm [2] K ?_;exact zE (zQ ⟨rfl,_,zv rfl rfl rfl zy hB4 hl4,E0,hN4⟩)
theorem zNC {x:Rat} (hx:IsNum w v x):Ret prog 132 #[v] w (fun u w'=>IsNum w' u (-x)):=by
 obtain ⟨p1,l1,k1,p2,l2,k2,rfl,hz1,hz2,hxn,hxd⟩:=hx.form;refine J0 17 func132 rfl (rj fun K => ?_);refine K1 (zt fun b1 w1 hb hE hB1 hs => ?_);have hgb1:w.heap.size≤b1:=by rw [hb];exact E0.size
 replace E0:=E0.trans hE;replace hxn:=hxn.ext hE;replace hxd:=hxd.ext hE;clear hE hs hb;refine K1 (zV zAY fun b2 w2 hb hE hB2 hs => ?_);have hgb2:w.heap.size≤b2:=by rw [hb];exact E0.size
 have ne_b1_b2:b1≠b2:=by have:=hB1.lt;omega
 replace E0:=E0.trans hE;replace hxn:=hxn.ext hE;replace hxd:=hxd.ext hE;replace hB1:=hB1.ext hE;clear hE hs hb;refine rm [1,2] K ?_;refine zA ?_;rcases (show x<0∨¬ x<0 from Classical.em _) with h1 | h1
 · rw [decide_eq_true h1] at hB1;refine K6 fun K=>K1 (zB zDC rfl (K1 (zD zCg rfl hB1 rfl (K1 (zq rfl (mv (K3 (K3 (K3 (K3 (pk rfl (K1 (zB zCJ rfl (K1 (zD zAb rfl hB1 rfl (K1 (zB zEa rfl (K1 (zD zAb rfl hB1 rfl (K1 (zT (cs := #[.bool false,.slice p1 l1 k1,.slice p2 l2 k2]) (by kernel_rfl) ?_)))))))))))))))))))));refine K1 (zN rfl (IsNum.neg_mk (x:=x) (by rw [decide_eq_true h1];rfl) hxn hxd) (Cell3.of hB2 rfl) fun _ w9 hU hN => ?_);replace E0:=E0.upd hU hgb2;obtain ⟨cs,hB4,hl4,hN4⟩:=hN;refine rs [2] K ?_;exact zE (zQ ⟨rfl,_,zv rfl rfl rfl zy hB4 hl4,E0,hN4⟩)
 · rw [decide_eq_false h1] at hB1;refine K6 fun K=>K1 (zB zDC rfl (K1 (zD zCg rfl hB1 rfl (K1 (zq rfl (mv (K2 (zB zCJ rfl (K2 (zD zAb rfl hB1 rfl (K2 (zI zd rfl (K2 (zJ rfl rfl rfl (pk rfl (K1 (zB zCJ rfl (K1 (zD zAb rfl hB1 rfl (K1 (zB zEa rfl (K1 (zD zAb rfl hB1 rfl (K1 (zT (cs := #[.bool (decide ((l1:Int)>0)),.slice p1 l1 k1,.slice p2 l2 k2]) (by kernel_rfl) ?_)))))))))))))))))))))))));refine K1 (zN rfl (IsNum.neg_mk (x:=x) (by rw [decide_eq_false h1];by_cases e:x=0;(have:=hz1.2 e;subst this;simp [e]);(have:l1≠0:=fun z=>e (hz1.1 z);simp [e];omega)) hxn hxd) (Cell3.of hB2 rfl) fun _ w9 hU hN => ?_);replace E0:=E0.upd hU hgb2;obtain ⟨cs,hB4,hl4,hN4⟩:=hN;refine rs [2] K ?_;exact zE (zQ ⟨rfl,_,zv rfl rfl rfl zy hB4 hl4,E0,hN4⟩)
theorem zMr (h:n≤9223372036854775808):Fit n:=by
 have:=zDU h;have e:(9223372036854775808:Nat).log2=63:=by decide +kernel
 exact zDD (by omega)
theorem zIT:prog.underlying 2=some (.int .i64):=by kernel_rfl
theorem zJg:prog.underlying 164=some (.int .u64):=by kernel_rfl
theorem Int_ok {n:Int} (h0 : -9223372036854775808≤n) (h9:n≤9223372036854775807):Ret prog 38 #[.int .i64 n] w (fun u w'=>IsNum w' u (n:Rat)):=by
 refine J0 16 func38 rfl (rj fun K => ?_);refine K1 (zV zAY fun b1 w1 hb hE hB1 hs => ?_);have hgb1:w.heap.size≤b1:=by rw [hb];exact E0.size
 replace E0:=E0.trans hE;clear hE hs hb;refine rm [0,2] K ?_;refine zA (zA ?_);rcases (show n<0∨¬ n<0 from Classical.em _) with h1 | h1
 · skip
   refine rI fun K=>K8 rfl (rs [0,2,4] K ?_);refine wct (congrArg Value.bool (decide_eq_true h1)) (rJ fun K=>K1 (zBM zIT zJg rfl (K1 (zJL rfl ?_))));rw [show IntKind.u64.wrap (0-IntKind.u64.wrap n)=((n.natAbs:Nat):Int) from by rw [zBk,zBk];omega];refine K1 (j1 E0 hB1.ext hb105 (zEo (by omega)) fun v2_3 w2 E0 hB1 hw1=>K1 (j2 E0 hB1.ext hw1.ext hb106 (zFz _) fun v2_4 w3 E0 hB1 hw1 ho1=>K1 (j3 E0 hB1.ext hw1.ext ho1.ext hb102 (zBZ hw1 ho1 (by decide) (zMr (by omega)) zJS) fun v2_5 w4 E0 hB1 hw1 ho1 hq1 => ?_)));rw [show (true:Bool)=decide (n<0) from (decide_eq_true h1).symm,zLE] at hq1;refine K1 (zN rfl hq1 (Cell3.of hB1 rfl) fun _ w9 hU hN => ?_);replace E0:=E0.upd hU hgb1;obtain ⟨cs,hB4,hl4,hN4⟩:=hN;refine rm [2] K ?_;exact zE (zU (zQ ⟨rfl,_,zv rfl rfl rfl zy hB4 hl4,E0,hN4⟩))
 · skip
   refine rI fun K=>K8 rfl (rs [0,2,4] K ?_);refine wcf (congrArg Value.bool (decide_eq_false h1)) (sk (rJ fun K=>K1 (zBM zIT zJg rfl ?_)));rw [show IntKind.u64.wrap n=((n.natAbs:Nat):Int) from by rw [zBk];omega];refine K1 (j1 E0 hB1.ext hb105 (zEo (by omega)) fun v3_2 w2 E0 hB1 hw1=>K1 (j2 E0 hB1.ext hw1.ext hb106 (zFz _) fun v3_3 w3 E0 hB1 hw1 ho1=>K1 (j3 E0 hB1.ext hw1.ext ho1.ext hb102 (zBZ hw1 ho1 (by decide) (zMr (by omega)) zJS) fun v3_4 w4 E0 hB1 hw1 ho1 hq1 => ?_)));rw [show (false:Bool)=decide (n<0) from (decide_eq_false h1).symm,zLE] at hq1;refine K1 (zN rfl hq1 (Cell3.of hB1 rfl) fun _ w9 hU hN => ?_);replace E0:=E0.upd hU hgb1;obtain ⟨cs,hB4,hl4,hN4⟩:=hN;refine rm [2] K ?_;exact zE (zQ ⟨rfl,_,zv rfl rfl rfl zy hB4 hl4,E0,hN4⟩)
theorem zEi {x y:Rat} (hx:IsNum w u x) (hy:IsNum w v y) (hr:rroom x y=true):Ret prog 101 #[u,v] w (fun r w'=>IsNum w' r (x*y)):=by
 have hx0:=hx;have hy0:=hy;obtain ⟨xn,xd,rfl,hxn,hxd⟩:=hx0;obtain ⟨yn,yd,rfl,hyn,hyd⟩:=hy0;have hf:=zGJ hr;refine J0 21 func101 rfl (rj fun K => ?_);refine K1 (zt fun b1 w1 hb hE hB1 hs => ?_);have hgb1:w.heap.size≤b1:=by rw [hb];exact E0.size
 replace E0:=E0.trans hE;replace hx:=hx.ext hE;replace hy:=hy.ext hE;replace hxn:=hxn.ext hE;replace hyn:=hyn.ext hE;clear hE hs hb;refine K1 (zt fun b2 w2 hb hE hB2 hs => ?_);have hgb2:w.heap.size≤b2:=by rw [hb];exact E0.size
 have ne_b1_b2:b1≠b2:=by have:=hB1.lt;omega
 replace E0:=E0.trans hE;replace hx:=hx.ext hE;replace hy:=hy.ext hE;replace hxn:=hxn.ext hE;replace hyn:=hyn.ext hE;replace hB1:=hB1.ext hE;clear hE hs hb;refine K1 (zV zAY fun b3 w3 hb hE hB3 hs => ?_);have hgb3:w.heap.size≤b3:=by rw [hb];exact E0.size
 have ne_b1_b3:b1≠b3:=by have:=hB1.lt;omega
 have ne_b2_b3:b2≠b3:=by have:=hB2.lt;omega
 replace E0:=E0.trans hE;replace hx:=hx.ext hE;replace hy:=hy.ext hE;replace hxn:=hxn.ext hE;replace hyn:=hyn.ext hE;replace hB1:=hB1.ext hE;replace hB2:=hB2.ext hE;clear hE hs hb;refine rm [2,3,4] K ?_;refine zA ?_;have hnw:NoW [b3] _:=noW1 hB3 (by decide)
 refine zCk [⟨16,b3,Cell3 b3,NumAt b3 (x*y)⟩] [([(2,none)],none),([(5,some 0)],none),([(3,none)],none),([(7,some 0)],none),([(6,some 2),(8,some 0)],none),([(2,none)],none),([(10,some 0)],none),([(3,none)],none),([(12,some 0)],none),([(11,some 2),(13,some 0)],none),([(2,none)],none),([(15,some 0)],none),([(3,none)],none),([(17,some 0)],none),([(16,some 2),(18,some 0)],none),([(9,some 10),(14,some 5),(19,some 0)],none),([(4,none),(20,some 0)],none)] mixed (by kernel_rfl) (by kernel_rfl) (by kernel_rfl) (by simp) (by kernel_rfl) (all1 (zFc hB3 rfl)) fun K hK=>dsv rfl (fun σ wx hE hk=>zB zDC hk.1 ⟨Ext.refl _,rfl⟩) (dsv rfl (fun σ wx hE hk=>zD zCg hk.1 (hB1.extS hE (nin1 ne_b1_b3)) rfl ⟨Ext.refl _,rfl⟩) (dsv rfl (fun σ wx hE hk=>zB zDC hk.1 ⟨Ext.refl _,rfl⟩) (dsv rfl (fun σ wx hE hk=>zD zCg hk.1 (hB2.extS hE (nin1 ne_b2_b3)) rfl ⟨Ext.refl _,rfl⟩) (dsv rfl (fun σ wx hE hk=>zKH zMV hk.1 hk.2.1 ⟨Ext.refl _,rfl⟩) (dsv rfl (fun σ wx hE hk=>zB zCJ hk.1 ⟨Ext.refl _,rfl⟩) (dsv rfl (fun σ wx hE hk=>zD zAb hk.1 (hB1.extS hE (nin1 ne_b1_b3)) rfl ⟨Ext.refl _,rfl⟩) (dsv rfl (fun σ wx hE hk=>zB zCJ hk.1 ⟨Ext.refl _,rfl⟩) (dsv rfl (fun σ wx hE hk=>zD zAb hk.1 (hB2.extS hE (nin1 ne_b2_b3)) rfl ⟨Ext.refl _,rfl⟩) (dsn (fun v w'=>IsW w' v (x.num.natAbs*y.num.natAbs)) rfl (fun _ _ _ h1 hx h=>h.extS hx (hnw.ext h1)) (fun σ wx hE hk=>zH hb103 (CallK.of_ret (zEe (IsW.of_eq hk.1 (hxn.extS hE hnw)) (IsW.of_eq hk.2.1 (hyn.extS hE hnw)) hf.xn hf.yn) fun v w2 hX hr=>⟨hX,hr⟩) rfl) (dsv rfl (fun σ wx hE hk=>zX zy hk.1 (hB1.extS hE (nin1 ne_b1_b3)) (Nat.le_of_ble_eq_true rfl) ⟨Ext.refl _,rfl⟩) (dsn (fun v w'=>IsW w' v (x.den)) rfl (fun _ _ _ h1 hx h=>h.extS hx (hnw.ext h1)) (fun σ wx hE hk=>zH hb104 (CallK.of_ret (zCU (IsNum.of_eq hk.1 (hx.extS hE hnw))) fun v w2 hX hr=>⟨hX,hr⟩) rfl) (dsv rfl (fun σ wx hE hk=>zX zy hk.1 (hB2.extS hE (nin1 ne_b2_b3)) (Nat.le_of_ble_eq_true rfl) ⟨Ext.refl _,rfl⟩) (dsn (fun v w'=>IsW w' v (y.den)) rfl (fun _ _ _ h1 hx h=>h.extS hx (hnw.ext h1)) (fun σ wx hE hk=>zH hb104 (CallK.of_ret (zCU (IsNum.of_eq hk.1 (hy.extS hE hnw))) fun v w2 hX hr=>⟨hX,hr⟩) rfl) ?_)))))))))))))
 refine dsn (fun v w'=>IsW w' v (x.den*y.den)) rfl (fun _ _ _ h1 hx h=>h.extS hx (hnw.ext h1)) (fun σ wx hE hk=>zH hb103 (CallK.of_ret (zEe hk.1 hk.2.1 hf.xd hf.yd) fun v w2 hX hr=>⟨hX,hr⟩) rfl) ?_;refine dsn (fun v w'=>IsNum w' v (x*y)) rfl (fun _ _ _ h1 hx h=>h.extS hx (hnw.ext h1)) (fun σ wx hE hk=>zH hb102 (CallK.eq3 hk.1 rfl rfl (CallK.of_ret (zBZ hk.2.1 hk.2.2.1 (Nat.mul_ne_zero x.den_nz y.den_nz) hf.nn hf.dd) fun v w2 hX hr=>⟨hX,by rw [q_mul];exact hr⟩)) rfl) ?_;refine dss _ rfl (fun σ wx hE hpre hk=>zAt hk.1 hk.2.1 hpre) (zHy (hK _ fun wq hS hP => ?_));rintro _ rfl _ rfl _ rfl _ rfl _ rfl _ rfl _ rfl _ rfl _ rfl v14 N14 _ rfl v16 N16 _ rfl v18 N18 v19 N19 v20 N20 _ _;refine zh ?_;obtain ⟨⟨cs,hB4,hl4,hN4⟩,-⟩:=hP;replace E0:=E0.updS hS hgb3;refine zM (K5 [4] ?_);exact zE (zQ ⟨rfl,_,zv rfl rfl rfl zy hB4 hl4,E0,hN4⟩)
variable {P:Program} {T T2 ty:TypeId} {af:Array Edge} {g:Option (Nat×Bool)} {k':IntKind} {pos:String} {r:Option Nat} {x y:Operand} {σ:Operand→Value}
theorem IsW.formF (h:IsW w v n) (hf:Fit n):∃ p l c,v = .slice p l c∧(l=0↔n=0)∧l≤137438953473:=by
 obtain ⟨p,ds,c,h1,h2,h3,h4,h5⟩:=h;refine ⟨p,ds.length,c,h1,?_,h4.fit (h5 ▸ hf)⟩;rw [List.length_eq_zero_iff,← h5];exact h4.zero.symm
theorem IsNum.formF (h:IsNum w v q) (hfn:Fit q.num.natAbs) (hfd:Fit q.den):∃ p1 l1 k1 p2 l2 k2,v = .agg #[.bool (decide (q<0)),.slice p1 l1 k1,.slice p2 l2 k2]∧(l1=0↔q=0)∧(l2=0↔q.den=1)∧IsW w (.slice p1 l1 k1) q.num.natAbs∧IsW w (.slice p2 l2 k2) (if q.den=1 then 0 else q.den)∧l1≤137438953473∧l2≤137438953473:=by
 obtain ⟨n,d,rfl,h1,h2⟩:=h;have hfd':Fit (if q.den=1 then 0 else q.den):=hfd.le (by split<;>omega);obtain ⟨p1,l1,k1,rfl,e1,b1⟩:=h1.formF hfn;obtain ⟨p2,l2,k2,rfl,e2,b2⟩:=h2.formF hfd';refine ⟨p1,l1,k1,p2,l2,k2,rfl,?_,?_,h1,h2,b1,b2⟩
 · rw [e1,Int.natAbs_eq_zero,Rat.num_eq_zero]
 · rw [e2];have:=q.den_pos;by_cases h:q.den=1
   · simp [h]
   · simp [h];omega
theorem zHj {K:Value→World→Prop} {d:Option Tmp} {k:IntKind} {a b:Int} (hx:σ x = .int k a) (hy:σ y = .int k' b) (hk:K (.int k (if b<a then b else a)) w) :
 Runs P r ⟨d,.call { callee := .builtin .min,args := #[x,y],argTypes := #[T,T2] },ty,pos,af,g⟩ σ w K:=by
 refine zo (fun _ e=>by cases e) ?_ hk;simp [execOp,resolve,hx,hy,invoke,builtin,Builtin.min_,Builtin.min2]
theorem zDn {K:Value→World→Prop} {d:Option Tmp} {k:IntKind} {a b:Int} (hx:σ x = .int k a) (hy:σ y = .int k' b) (hk:K (.int k (if a<b then b else a)) w) :
 Runs P r ⟨d,.call { callee := .builtin .max,args := #[x,y],argTypes := #[T,T2] },ty,pos,af,g⟩ σ w K:=by
 refine zo (fun _ e=>by cases e) ?_ hk;simp [execOp,resolve,hx,hy,invoke,builtin,Builtin.max_,Builtin.max2]
def rcmpI (x y:Rat):Int:=if x<y then -1 else if x=y then 0 else 1
theorem zLS {x y:Rat} {c:Int} (h:(x.num*y.den<y.num*x.den∧c = -1)∨(x.num*y.den=y.num*x.den∧c=0)∨(y.num*x.den<x.num*y.den∧c=1)):c=rcmpI x y:=by
 unfold rcmpI;have hl:=Rat.lt_iff x y;have he:x=y→x.num*y.den=y.num*x.den:=fun e=>by rw [e]
 rcases h with ⟨h1,h2⟩ | ⟨h1,h2⟩ | ⟨h1,h2⟩
 · rw [if_pos (hl.2 h1),h2]
 · have hxy:x=y:=by
    have e1:=Rat.mkRat_self x;have e2:=Rat.mkRat_self y;rw [← e1,← e2];exact (Rat.mkRat_eq_iff x.den_nz y.den_nz).2 h1
   have h3:¬ x<y:=fun e=>by have:=hl.1 e;omega
   rw [if_neg h3,if_pos hxy,h2]
 · have h3:¬ x<y:=fun e=>by have:=hl.1 e;omega
   have h4:¬ x=y:=fun e=>by have:=he e;omega
   rw [if_neg h3,if_neg h4,h2]
theorem cmp_signs {x y:Rat} (h:rsign x≠rsign y):(if (-1:Int)<(if IntKind.i64.wrap (rsign x-rsign y)<1 then IntKind.i64.wrap (rsign x-rsign y) else 1) then (if IntKind.i64.wrap (rsign x-rsign y)<1 then IntKind.i64.wrap (rsign x-rsign y) else 1) else -1)=rcmpI x y:=by
 have hx:(0:Int)<x.den:=by have:=x.den_pos;omega
 have hy:(0:Int)<y.den:=by have:=y.den_pos;omega
 refine zLS ?_;unfold rsign at h ⊢;have pos:∀ {a b:Int},0<a→0<b→0<a*b:=fun h1 h2=>Int.mul_pos h1 h2;have neg:∀ {a b:Int},a<0→0<b→a*b<0:=fun h1 h2=>Int.mul_neg_of_neg_of_pos h1 h2;have zer:∀ {a b:Int},a=0→a*b=0:=fun h1=>by rw [h1,Int.zero_mul]
 rcases Int.lt_trichotomy x.num 0 with a | a | a<;>rcases Int.lt_trichotomy y.num 0 with b | b | b
 · rw [Int.sign_eq_neg_one_of_neg a,Int.sign_eq_neg_one_of_neg b] at h;exact absurd rfl h
 · rw [Int.sign_eq_neg_one_of_neg a,b];exact Or.inl ⟨by have:=neg a hy;omega,by decide⟩
 · rw [Int.sign_eq_neg_one_of_neg a,Int.sign_eq_one_of_pos b];exact Or.inl ⟨by have:=neg a hy;have:=pos b hx;omega,by decide⟩
 · rw [a,Int.sign_eq_neg_one_of_neg b];exact Or.inr (Or.inr ⟨by have:=neg b hx;omega,by decide⟩)
 · rw [a,b] at h;exact absurd rfl h
 · rw [a,Int.sign_eq_one_of_pos b];exact Or.inl ⟨by have:=pos b hx;omega,by decide⟩
 · rw [Int.sign_eq_one_of_pos a,Int.sign_eq_neg_one_of_neg b];exact Or.inr (Or.inr ⟨by have:=pos a hy;have:=neg b hx;omega,by decide⟩)
 · rw [Int.sign_eq_one_of_pos a,b];exact Or.inr (Or.inr ⟨by have:=pos a hy;omega,by decide⟩)
 · rw [Int.sign_eq_one_of_pos a,Int.sign_eq_one_of_pos b] at h;exact absurd rfl h
theorem cmp_same {x y:Rat} {cm:Int} (h:rsign x=rsign y) (hc:CmpIs cm (x.num.natAbs*y.den) (y.num.natAbs*x.den)):IntKind.i64.wrap (rsign x*(if (-1:Int)<(if cm<1 then cm else 1) then (if cm<1 then cm else 1) else -1))=rcmpI x y:=by
 have hm:(if (-1:Int)<(if cm<1 then cm else 1) then (if cm<1 then cm else 1) else -1)=(if cm<0 then -1 else if cm=0 then 0 else 1):=by
  split<;>split<;>split<;>omega
 rw [hm];obtain ⟨c1,c2⟩:=hc;have ex:(x.num.natAbs*y.den:Nat)=(x.num*y.den).natAbs:=by rw [Int.natAbs_mul];rfl
 have ey:(y.num.natAbs*x.den:Nat)=(y.num*x.den).natAbs:=by rw [Int.natAbs_mul];rfl
 rw [ex,ey] at c1 c2;have hx:(0:Int)<x.den:=by have:=x.den_pos;omega
 have hy:(0:Int)<y.den:=by have:=y.den_pos;omega
 have pos:∀ {a b:Int},0<a→0<b→0<a*b:=fun h1 h2=>Int.mul_pos h1 h2;have neg:∀ {a b:Int},a<0→0<b→a*b<0:=fun h1 h2=>Int.mul_neg_of_neg_of_pos h1 h2;refine zLS ?_;unfold rsign at h ⊢;rcases Int.lt_trichotomy x.num 0 with a | a | a
 · rw [Int.sign_eq_neg_one_of_neg a] at h ⊢;have b:y.num<0:=Int.sign_eq_neg_one_iff_neg.1 h.symm;have k1:=neg a hy;have k2:=neg b hx;by_cases e1:cm<0
   · rw [if_pos e1];have:=c1.1 e1;exact Or.inr (Or.inr ⟨by omega,by decide⟩)
   · rw [if_neg e1];by_cases e2:cm=0
     · rw [if_pos e2];have:=c2.1 e2;exact Or.inr (Or.inl ⟨by omega,by decide⟩)
     · rw [if_neg e2];exact Or.inl ⟨by have h3:¬ (x.num * ↑y.den).natAbs<(y.num * ↑x.den).natAbs:=fun e=>e1 (c1.2 e);have h4:¬ (x.num * ↑y.den).natAbs=(y.num * ↑x.den).natAbs:=fun e=>e2 (c2.2 e);omega,by decide⟩
 · rw [a] at h ⊢;have b:y.num=0:=Int.sign_eq_zero_iff_zero.1 h.symm;rw [b];exact Or.inr (Or.inl ⟨by simp,by rw [Int.sign_zero,Int.zero_mul];rfl⟩)
 · rw [Int.sign_eq_one_of_pos a] at h ⊢;have b:0<y.num:=Int.sign_eq_one_iff_pos.1 h.symm;have k1:=pos a hy;have k2:=pos b hx;by_cases e1:cm<0
   · rw [if_pos e1];have:=c1.1 e1;exact Or.inl ⟨by omega,by decide⟩
   · rw [if_neg e1];by_cases e2:cm=0
     · rw [if_pos e2];have:=c2.1 e2;exact Or.inr (Or.inl ⟨by omega,by decide⟩)
     · rw [if_neg e2];exact Or.inr (Or.inr ⟨by have h3:¬ (x.num * ↑y.den).natAbs<(y.num * ↑x.den).natAbs:=fun e=>e1 (c1.2 e);have h4:¬ (x.num * ↑y.den).natAbs=(y.num * ↑x.den).natAbs:=fun e=>e2 (c2.2 e);omega,by decide⟩)
theorem Add_ok {x y:Rat} (hx:IsNum w u x) (hy:IsNum w v y) (hr:rroom x y=true):Ret prog 146 #[u,v] w (fun r w'=>IsNum w' r (x+y)):=by
 have hf:=zGJ hr;obtain ⟨p1,l1,k1,p2,l2,k2,rfl,hz1,hz2,hxn,hxd,hb1,hb2⟩:=hx.formF hf.xn hf.xd;obtain ⟨p3,l3,k3,p4,l4,k4,rfl,hz3,hz4,hyn,hyd,hb3,hb4⟩:=hy.formF hf.yn hf.yd;have E0:Ext w w:=Ext.refl w;refine J0 66 func146 rfl (rj fun K => ?_);refine K1 (zt fun b1 w1 hb hE hB1 hs => ?_);have hgb1:w.heap.size≤b1:=by rw [hb];exact E0.size
 replace E0:=E0.trans hE;replace hx:=hx.ext hE;replace hy:=hy.ext hE;replace hxn:=hxn.ext hE;replace hyn:=hyn.ext hE;clear hE hs hb;refine K1 (zt fun b2 w2 hb hE hB2 hs => ?_);have hgb2:w.heap.size≤b2:=by rw [hb];exact E0.size
 have ne_b1_b2:b1≠b2:=by have:=hB1.lt;omega
 replace E0:=E0.trans hE;replace hx:=hx.ext hE;replace hy:=hy.ext hE;replace hxn:=hxn.ext hE;replace hyn:=hyn.ext hE;replace hB1:=hB1.ext hE;clear hE hs hb;refine K1 (zV zAY fun b3 w3 hb hE hB3 hs => ?_);have hgb3:w.heap.size≤b3:=by rw [hb];exact E0.size
 have ne_b1_b3:b1≠b3:=by have:=hB1.lt;omega
 have ne_b2_b3:b2≠b3:=by have:=hB2.lt;omega
 replace E0:=E0.trans hE;replace hx:=hx.ext hE;replace hy:=hy.ext hE;replace hxn:=hxn.ext hE;replace hyn:=hyn.ext hE;replace hB1:=hB1.ext hE;replace hB2:=hB2.ext hE;clear hE hs hb;refine rm [2,3,4] K ?_;refine zA (zAK [([(2,none)],none),([(8,some 0)],none),([(3,none)],none),([(10,some 0)],none),([],none),([(9,some 3)],none),([(11,some 2)],none),([(12,some 2)],none)] mixed (by kernel_rfl) (by kernel_rfl) (by kernel_rfl) fun K hK=>dvp (fun σ wx hE hk=>zB zCJ hk.1 ⟨Ext.refl _,rfl⟩) (dvp (fun σ wx hE hk=>zD zAb hk.1 (hB1.ext hE) rfl ⟨Ext.refl _,rfl⟩) (dvp (fun σ wx hE hk=>zB zCJ hk.1 ⟨Ext.refl _,rfl⟩) (dvp (fun σ wx hE hk=>zD zAb hk.1 (hB2.ext hE) rfl ⟨Ext.refl _,rfl⟩) (dcp (fun v w'=>IsW w' v (1)) (fun _ _ _ _ hx h=>h.ext hx.toExt) (fun σ wx hE hk=>zH hb106 (CallK.of_ret (zFz _) fun v w2 hX hr=>⟨hX,hr⟩) rfl) (dvp (fun σ wx hE hk=>zS ⟨Ext.refl _,hk.1⟩) (dvp (fun σ wx hE hk=>zS ⟨Ext.refl _,hk.1⟩) (dcp (fun v w'=>IsW w' v (1)) (fun _ _ _ _ hx h=>h.ext hx.toExt) (fun σ wx hE hk=>zS ⟨Ext.refl _,hk.1⟩) (zAi (hK _ fun wq hE => ?_))))))))));rintro _ rfl _ rfl _ rfl _ rfl v12 N12 _ rfl _ rfl v7 N7;refine zh ?_;replace E0:=E0.trans hE
 replace hx:=hx.ext hE;replace hy:=hy.ext hE;replace hxn:=hxn.ext hE;replace hyn:=hyn.ext hE;replace hB1:=hB1.ext hE;replace hB2:=hB2.ext hE;replace hB3:=hB3.ext hE;clear hE;refine zM (K5 [2,3,4,5,6,7] ?_);refine zAu (fun ρ w'=>∃ v5 v6 v7,Keep ρ [(2,.pointer (some ⟨b1,0,none⟩)),(3,.pointer (some ⟨b2,0,none⟩)),(4,.pointer (some ⟨b3,0,none⟩)),(5,v5),(6,v6),(7,v7)]∧Ext w w'∧IsW w' v5 (x.num.natAbs*y.den)∧IsW w' v6 (y.num.natAbs*x.den)∧IsW w' v7 (x.den*y.den)∧Blk w' b1 37 [Value.bool (decide (x<0)),Value.slice p1 l1 k1,Value.slice p2 l2 k2]∧Blk w' b2 37 [Value.bool (decide (y<0)),Value.slice p3 l3 k3,Value.slice p4 l4 k4]∧Blk w' b3 37 [Value.bool false,Value.slice none 0 0,Value.slice none 0 0]) ?_ ?_
 · refine rj fun K=>K1 (zB zEa rfl (K1 (zD zAb rfl hB1 rfl (K1 (zI zd rfl (K1 (zB zEa rfl (K1 (zD zAb rfl hB2 rfl (K1 (zI zd rfl (K1 (zf (l2+l4) rfl rfl rfl (by omega) (K8 rfl (rm [2,3,4,5,6,7,20] K ?_)))))))))))))));refine K0 rfl ?_ ?_<;>intro hc
   · clear hc
     refine zAK [([(5,none)],none),([(3,none)],none),([(22,some 0)],none),([(21,some 2),(23,some 0)],none),([(6,none)],none),([(2,none)],none),([(26,some 0)],none),([(25,some 2),(27,some 0)],none),([(2,none)],none),([(29,some 0)],none),([(3,none)],none),([(31,some 0)],none),([(30,some 2),(32,some 0)],none),([(24,some 9)],none),([(28,some 6)],none),([(33,some 2)],none)] mixed (by kernel_rfl) (by kernel_rfl) (by kernel_rfl) fun K hK=>dvp (fun σ wx hE hk=>zC ⟨Ext.refl _,hk.1⟩) (dvp (fun σ wx hE hk=>zX zy hk.1 (hB2.ext hE) (Nat.le_of_ble_eq_true rfl) ⟨Ext.refl _,rfl⟩) (dcp (fun v w'=>IsW w' v (y.den)) (fun _ _ _ _ hx h=>h.ext hx.toExt) (fun σ wx hE hk=>zH hb104 (CallK.of_ret (zCU (IsNum.of_eq hk.1 (hy.ext hE))) fun v w2 hX hr=>⟨hX,hr⟩) rfl) (dcp (fun v w'=>IsW w' v (x.num.natAbs*y.den)) (fun _ _ _ _ hx h=>h.ext hx.toExt) (fun σ wx hE hk=>zH hb103 (CallK.of_ret (zEe (IsW.of_eq hk.1 (hxn.ext hE)) hk.2.1 hf.xn hf.yd) fun v w2 hX hr=>⟨hX,hr⟩) rfl) (dvp (fun σ wx hE hk=>zC ⟨Ext.refl _,hk.1⟩) (dvp (fun σ wx hE hk=>zX zy hk.1 (hB1.ext hE) (Nat.le_of_ble_eq_true rfl) ⟨Ext.refl _,rfl⟩) (dcp (fun v w'=>IsW w' v (x.den)) (fun _ _ _ _ hx h=>h.ext hx.toExt) (fun σ wx hE hk=>zH hb104 (CallK.of_ret (zCU (IsNum.of_eq hk.1 (hx.ext hE))) fun v w2 hX hr=>⟨hX,hr⟩) rfl) (dcp (fun v w'=>IsW w' v (y.num.natAbs*x.den)) (fun _ _ _ _ hx h=>h.ext hx.toExt) (fun σ wx hE hk=>zH hb103 (CallK.of_ret (zEe (IsW.of_eq hk.1 (hyn.ext hE)) hk.2.1 hf.yn hf.xd) fun v w2 hX hr=>⟨hX,hr⟩) rfl) (dvp (fun σ wx hE hk=>zX zy hk.1 (hB1.ext hE) (Nat.le_of_ble_eq_true rfl) ⟨Ext.refl _,rfl⟩) (dcp (fun v w'=>IsW w' v (x.den)) (fun _ _ _ _ hx h=>h.ext hx.toExt) (fun σ wx hE hk=>zH hb104 (CallK.of_ret (zCU (IsNum.of_eq hk.1 (hx.ext hE))) fun v w2 hX hr=>⟨hX,hr⟩) rfl) (dvp (fun σ wx hE hk=>zX zy hk.1 (hB2.ext hE) (Nat.le_of_ble_eq_true rfl) ⟨Ext.refl _,rfl⟩) (dcp (fun v w'=>IsW w' v (y.den)) (fun _ _ _ _ hx h=>h.ext hx.toExt) (fun σ wx hE hk=>zH hb104 (CallK.of_ret (zCU (IsNum.of_eq hk.1 (hy.ext hE))) fun v w2 hX hr=>⟨hX,hr⟩) rfl) (dcp (fun v w'=>IsW w' v (x.den*y.den)) (fun _ _ _ _ hx h=>h.ext hx.toExt) (fun σ wx hE hk=>zH hb103 (CallK.of_ret (zEe hk.1 hk.2.1 hf.xd hf.yd) fun v w2 hX hr=>⟨hX,hr⟩) rfl) (dcp (fun v w'=>IsW w' v (x.num.natAbs*y.den)) (fun _ _ _ _ hx h=>h.ext hx.toExt) (fun σ wx hE hk=>zS ⟨Ext.refl _,hk.1⟩) ?_)))))))))))))
     refine dcp (fun v w'=>IsW w' v (y.num.natAbs*x.den)) (fun _ _ _ _ hx h=>h.ext hx.toExt) (fun σ wx hE hk=>zS ⟨Ext.refl _,hk.1⟩) (dcp (fun v w'=>IsW w' v (x.den*y.den)) (fun _ _ _ _ hx h=>h.ext hx.toExt) (fun σ wx hE hk=>zS ⟨Ext.refl _,hk.1⟩) (zAi (hK _ fun wq hE => ?_)));rintro _ rfl _ rfl v23 N23 v24 N24 _ rfl _ rfl v27 N27 v28 N28 _ rfl v30 N30 _ rfl v32 N32 v33 N33 v5 N5 v6 N6 v7 N7;refine zh ?_;replace E0:=E0.trans hE;replace hx:=hx.ext hE;replace hy:=hy.ext hE;replace hxn:=hxn.ext hE;replace hyn:=hyn.ext hE;replace hB1:=hB1.ext hE;replace hB2:=hB2.ext hE;replace hB3:=hB3.ext hE;replace N12:=N12.ext hE;clear hE;exact zO ⟨rfl,_,_,_,(kp rfl),E0,N5,N6,N7,hB1,hB2,hB3⟩
   · have hd0:l2+l4=0:=by have:=of_decide_eq_false hc;omega
     clear hc;have hd1:x.den=1:=hz2.1 (by omega);have hd2:y.den=1:=hz4.1 (by omega);refine zp (zO ?_);exact ⟨rfl,_,_,_,(kp rfl),E0,by rw [hd2,Nat.mul_one];exact hxn,by rw [hd1,Nat.mul_one];exact hyn,by rw [hd1,hd2];exact N7,hB1,hB2,hB3⟩
 · clear E0 hxn hyn hB1 hB2 hB3;rintro ρ2 w2 ⟨v5,v6,v7,hk,E0,h5,h6,h7,hB1,hB2,hB3⟩;refine wpe_k _ hk ?_;clear hk ρ2;refine zA (zF (rj fun K=>K1 (zB zDC rfl (K1 (zD zCg rfl hB1 rfl (K1 (zB zDC rfl (K1 (zD zCg rfl hB2 rfl (K1 (runs_beql zMV rfl rfl (ag (rm [2,3,4,5,6,7,34] K ?_)))))))))))));refine K0 rfl ?_ ?_<;>intro hc
   · have he:decide (x<0)=decide (y<0):=eq_of_beq hc;clear hc;refine zA ?_;have hnw:NoW [b3] _:=noW1 hB3 (by decide);refine zCk [⟨7,b3,Cell3 b3,NumAt b3 (x+y)⟩] [([(2,none)],none),([(40,some 0)],none),([(5,none)],none),([(6,none)],none),([(42,some 1),(43,some 0)],none),([(7,none)],none),([(41,some 4),(44,some 1),(45,some 0)],none),([(4,none),(46,some 0)],none)] mixed (by kernel_rfl) (by kernel_rfl) (by kernel_rfl) (by simp) (by kernel_rfl) (all1 (zFc hB3 rfl)) fun K hK=>dsv rfl (fun σ wx hE hk=>zB zDC hk.1 ⟨Ext.refl _,rfl⟩) (dsv rfl (fun σ wx hE hk=>zD zCg hk.1 (hB1.extS hE (nin1 ne_b1_b3)) rfl ⟨Ext.refl _,rfl⟩) (dsv rfl (fun σ wx hE hk=>zC ⟨Ext.refl _,hk.1⟩) (dsv rfl (fun σ wx hE hk=>zC ⟨Ext.refl _,hk.1⟩) (dsn (fun v w'=>IsW w' v (x.num.natAbs*y.den+y.num.natAbs*x.den)) rfl (fun _ _ _ h1 hx h=>h.extS hx (hnw.ext h1)) (fun σ wx hE hk=>zH hb234 (CallK.of_ret (zMT (IsW.of_eq hk.1 (h5.extS hE hnw)) (IsW.of_eq hk.2.1 (h6.extS hE hnw)) hf.nd hf.nd') fun v w2 hX hr=>⟨hX,hr⟩) rfl) (dsv rfl (fun σ wx hE hk=>zC ⟨Ext.refl _,hk.1⟩) ?_)))))
     refine dsn (fun v w'=>IsNum w' v (x+y)) rfl (fun _ _ _ h1 hx h=>h.extS hx (hnw.ext h1)) (fun σ wx hE hk=>zH hb102 (CallK.eq3 hk.1 rfl rfl (CallK.of_ret (zBZ hk.2.1 (IsW.of_eq hk.2.2.1 (h7.extS hE hnw)) (Nat.mul_ne_zero x.den_nz y.den_nz) hf.add hf.dd) fun v w2 hX hr=>⟨hX,by rw [zIL x y he];exact hr⟩)) rfl) ?_;refine dss _ rfl (fun σ wx hE hpre hk=>zAt hk.1 hk.2.1 hpre) (zHy (hK _ fun wq hS hP => ?_));rintro _ rfl _ rfl _ rfl _ rfl v44 N44 _ rfl v46 N46 _ _;refine zh ?_;obtain ⟨⟨cs,hB4,hl4,hN4⟩,-⟩:=hP;replace E0:=E0.updS hS hgb3;refine zM (K5 [2,3,4] ?_);exact zE (zZ (zU (zQ ⟨rfl,_,zv rfl rfl rfl zy hB4 hl4,E0,hN4⟩)))
   · have he:decide (x<0)≠decide (y<0):=beq_eq_false_iff_ne.1 hc;clear hc;refine rJ fun K=>mv (K1 (j6 E0 h5.ext h6.ext h7.ext hB1.ext hB2.ext hB3.ext hb174 (zMa h5 h6 hf.nd hf.nd') fun v6_2 w4 E0 h5 h6 h7 hB1 hB2 hB3 hr => ?_));obtain ⟨cm,rfl,hcm⟩:=hr;refine K8 rfl (ag (rm [2,3,4,5,6,7,47] K ?_));refine K0 rfl ?_ ?_<;>intro hc
     · have hlt:x.num.natAbs*y.den<y.num.natAbs*x.den:=hcm.1.1 (of_decide_eq_true hc);clear hc;refine zA ?_;have hnw:NoW [b3] _:=noW1 hB3 (by decide);refine zCk [⟨7,b3,Cell3 b3,NumAt b3 (x+y)⟩] [([(3,none)],none),([(52,some 0)],none),([(6,none)],none),([(5,none)],none),([(54,some 1),(55,some 0)],none),([(7,none)],none),([(53,some 4),(56,some 1),(57,some 0)],none),([(4,none),(58,some 0)],none)] mixed (by kernel_rfl) (by kernel_rfl) (by kernel_rfl) (by simp) (by kernel_rfl) (all1 (zFc hB3 rfl)) fun K hK=>dsv rfl (fun σ wx hE hk=>zB zDC hk.1 ⟨Ext.refl _,rfl⟩) (dsv rfl (fun σ wx hE hk=>zD zCg hk.1 (hB2.extS hE (nin1 ne_b2_b3)) rfl ⟨Ext.refl _,rfl⟩) (dsv rfl (fun σ wx hE hk=>zC ⟨Ext.refl _,hk.1⟩) (dsv rfl (fun σ wx hE hk=>zC ⟨Ext.refl _,hk.1⟩) (dsn (fun v w'=>IsW w' v (y.num.natAbs*x.den-x.num.natAbs*y.den)) rfl (fun _ _ _ h1 hx h=>h.extS hx (hnw.ext h1)) (fun σ wx hE hk=>zH hb235 (CallK.of_ret (zNF (IsW.of_eq hk.1 (h6.extS hE hnw)) (IsW.of_eq hk.2.1 (h5.extS hE hnw)) hf.nd' (Nat.le_of_lt hlt)) fun v w2 hX hr=>⟨hX,hr⟩) rfl) (dsv rfl (fun σ wx hE hk=>zC ⟨Ext.refl _,hk.1⟩) ?_)))))
       refine dsn (fun v w'=>IsNum w' v (x+y)) rfl (fun _ _ _ h1 hx h=>h.extS hx (hnw.ext h1)) (fun σ wx hE hk=>zH hb102 (CallK.eq3 hk.1 rfl rfl (CallK.of_ret (zBZ hk.2.1 (IsW.of_eq hk.2.2.1 (h7.extS hE hnw)) (Nat.mul_ne_zero x.den_nz y.den_nz) (hf.nd'.le (Nat.sub_le _ _)) hf.dd) fun v w2 hX hr=>⟨hX,by rw [zGT x y he (Nat.le_of_lt hlt)];exact hr⟩)) rfl) ?_;refine dss _ rfl (fun σ wx hE hpre hk=>zAt hk.1 hk.2.1 hpre) (zHy (hK _ fun wq hS hP => ?_));rintro _ rfl _ rfl _ rfl _ rfl v56 N56 _ rfl v58 N58 _ _;refine zh ?_;obtain ⟨⟨cs,hB4,hl4,hN4⟩,-⟩:=hP;replace E0:=E0.updS hS hgb3;refine zM (K5 [2,3,4] ?_);exact zE (zZ (zU (zQ ⟨rfl,_,zv rfl rfl rfl zy hB4 hl4,E0,hN4⟩)))
     · have hge:y.num.natAbs*x.den≤x.num.natAbs*y.den:=Nat.le_of_not_lt fun e=>of_decide_eq_false hc (hcm.1.2 e);clear hc;refine zp (zR (zM (zA ?_)));have hnw:NoW [b3] _:=noW1 hB3 (by decide);refine zCk [⟨7,b3,Cell3 b3,NumAt b3 (x+y)⟩] [([(2,none)],none),([(59,some 0)],none),([(5,none)],none),([(6,none)],none),([(61,some 1),(62,some 0)],none),([(7,none)],none),([(60,some 4),(63,some 1),(64,some 0)],none),([(4,none),(65,some 0)],none)] mixed (by kernel_rfl) (by kernel_rfl) (by kernel_rfl) (by simp) (by kernel_rfl) (all1 (zFc hB3 rfl)) fun K hK=>dsv rfl (fun σ wx hE hk=>zB zDC hk.1 ⟨Ext.refl _,rfl⟩) (dsv rfl (fun σ wx hE hk=>zD zCg hk.1 (hB1.extS hE (nin1 ne_b1_b3)) rfl ⟨Ext.refl _,rfl⟩) (dsv rfl (fun σ wx hE hk=>zC ⟨Ext.refl _,hk.1⟩) (dsv rfl (fun σ wx hE hk=>zC ⟨Ext.refl _,hk.1⟩) (dsn (fun v w'=>IsW w' v (x.num.natAbs*y.den-y.num.natAbs*x.den)) rfl (fun _ _ _ h1 hx h=>h.extS hx (hnw.ext h1)) (fun σ wx hE hk=>zH hb235 (CallK.of_ret (zNF (IsW.of_eq hk.1 (h5.extS hE hnw)) (IsW.of_eq hk.2.1 (h6.extS hE hnw)) hf.nd hge) fun v w2 hX hr=>⟨hX,hr⟩) rfl) (dsv rfl (fun σ wx hE hk=>zC ⟨Ext.refl _,hk.1⟩) ?_)))))
       refine dsn (fun v w'=>IsNum w' v (x+y)) rfl (fun _ _ _ h1 hx h=>h.extS hx (hnw.ext h1)) (fun σ wx hE hk=>zH hb102 (CallK.eq3 hk.1 rfl rfl (CallK.of_ret (zBZ hk.2.1 (IsW.of_eq hk.2.2.1 (h7.extS hE hnw)) (Nat.mul_ne_zero x.den_nz y.den_nz) (hf.nd.le (Nat.sub_le _ _)) hf.dd) fun v w2 hX hr=>⟨hX,by rw [zIV x y he hge];exact hr⟩)) rfl) ?_;refine dss _ rfl (fun σ wx hE hpre hk=>zAt hk.1 hk.2.1 hpre) (zHy (hK _ fun wq hS hP => ?_));rintro _ rfl _ rfl _ rfl _ rfl v63 N63 _ rfl v65 N65 _ _;refine zh ?_;obtain ⟨⟨cs,hB4,hl4,hN4⟩,-⟩:=hP;replace E0:=E0.updS hS hgb3;refine zM (K5 [2,3,4] ?_);exact zE (zQ ⟨rfl,_,zv rfl rfl rfl zy hB4 hl4,E0,hN4⟩)
theorem room_neg (x y:Rat):rroom x (-y)=rroom x y:=by
 unfold rroom sz;rw [Rat.neg_num,Int.natAbs_neg,Rat.neg_den]
theorem zNE {x y:Rat} (hx:IsNum w u x) (hy:IsNum w v y) (hr:rroom x y=true):Ret prog 237 #[u,v] w (fun r w'=>IsNum w' r (x-y)):=by
 have hx0:=hx;have hy0:=hy;obtain ⟨xn,xd,rfl,hxn,hxd⟩:=hx0;obtain ⟨yn,yd,rfl,hyn,hyd⟩:=hy0;refine J0 9 func237 rfl (rj fun K => ?_);refine K1 (zt fun b1 w1 hb hE hB1 hs => ?_);have hgb1:w.heap.size≤b1:=by rw [hb];exact E0.size
 replace E0:=E0.trans hE;replace hx:=hx.ext hE;replace hy:=hy.ext hE;clear hE hs hb;refine K1 (zt fun b2 w2 hb hE hB2 hs => ?_);have hgb2:w.heap.size≤b2:=by rw [hb];exact E0.size
 have ne_b1_b2:b1≠b2:=by have:=hB1.lt;omega
 replace E0:=E0.trans hE;replace hx:=hx.ext hE;replace hy:=hy.ext hE;replace hB1:=hB1.ext hE;clear hE hs hb;refine K1 (zV zAY fun b3 w3 hb hE hB3 hs => ?_);have hgb3:w.heap.size≤b3:=by rw [hb];exact E0.size
 have ne_b1_b3:b1≠b3:=by have:=hB1.lt;omega
 have ne_b2_b3:b2≠b3:=by have:=hB2.lt;omega
 replace E0:=E0.trans hE;replace hx:=hx.ext hE;replace hy:=hy.ext hE;replace hB1:=hB1.ext hE;replace hB2:=hB2.ext hE;clear hE hs hb;refine rm [2,3,4] K ?_;refine zA ?_;have hnw:NoW [b3] _:=noW1 hB3 (by decide);refine zCk [⟨4,b3,Cell3 b3,NumAt b3 (x-y)⟩] [([(2,none)],none),([(3,none)],none),([(6,some 0)],none),([(5,some 2),(7,some 0)],none),([(4,none),(8,some 0)],none)] mixed (by kernel_rfl) (by kernel_rfl) (by kernel_rfl) (by simp) (by kernel_rfl) (all1 (zFc hB3 rfl)) fun K hK=>dsv rfl (fun σ wx hE hk=>zX zy hk.1 (hB1.extS hE (nin1 ne_b1_b3)) (Nat.le_of_ble_eq_true rfl) ⟨Ext.refl _,rfl⟩) (dsv rfl (fun σ wx hE hk=>zX zy hk.1 (hB2.extS hE (nin1 ne_b2_b3)) (Nat.le_of_ble_eq_true rfl) ⟨Ext.refl _,rfl⟩) (dsn (fun v w'=>IsNum w' v (-y)) rfl (fun _ _ _ h1 hx h=>h.extS hx (hnw.ext h1)) (fun σ wx hE hk=>zH hb132 (CallK.of_ret (zNC (IsNum.of_eq hk.1 (hy.extS hE hnw))) fun v w2 hX hr=>⟨hX,hr⟩) rfl) ?_));refine dsn (fun v w'=>IsNum w' v (x-y)) rfl (fun _ _ _ h1 hx h=>h.extS hx (hnw.ext h1)) (fun σ wx hE hk=>zH hb146 (CallK.of_ret (Add_ok (IsNum.of_eq hk.1 (hx.extS hE hnw)) hk.2.1 (by rw [room_neg];exact hr)) fun v w2 hX hr=>⟨hX,by rw [Rat.sub_eq_add_neg];exact hr⟩) rfl) ?_;refine dss _ rfl (fun σ wx hE hpre hk=>zAt hk.1 hk.2.1 hpre) (zHy (hK _ fun wq hS hP => ?_));rintro _ rfl _ rfl v7 N7 v8 N8 _ _;refine zh ?_
 obtain ⟨⟨cs,hB4,hl4,hN4⟩,-⟩:=hP;replace E0:=E0.updS hS hgb3;refine zM (K5 [4] ?_);exact zE (zQ ⟨rfl,_,zv rfl rfl rfl zy hB4 hl4,E0,hN4⟩)
theorem zMG {x y:Rat} (hx:IsNum w u x) (hy:IsNum w v y) (hr:rroom x y=true):Ret prog 37 #[u,v] w (fun r w'=>∃ q,r = .tuple #[q,.int .i64 (if y=0 then 8 else 0)]∧IsNum w' q (x/y)):=by
 have hf:=zGJ hr;obtain ⟨p1,l1,k1,p2,l2,k2,rfl,hz1,hz2,hxn,hxd,hb1,hb2⟩:=hx.formF hf.xn hf.xd;obtain ⟨p3,l3,k3,p4,l4,k4,rfl,hz3,hz4,hyn,hyd,hb3,hb4⟩:=hy.formF hf.yn hf.yd;refine J0 27 func37 rfl (rj fun K => ?_);refine K1 (zt fun b1 w1 hb hE hB1 hs => ?_);have hgb1:w.heap.size≤b1:=by rw [hb];exact E0.size
 replace E0:=E0.trans hE;replace hx:=hx.ext hE;replace hy:=hy.ext hE;replace hxn:=hxn.ext hE;replace hyn:=hyn.ext hE;clear hE hs hb;refine K1 (zt fun b2 w2 hb hE hB2 hs => ?_);have hgb2:w.heap.size≤b2:=by rw [hb];exact E0.size
 have ne_b1_b2:b1≠b2:=by have:=hB1.lt;omega
 replace E0:=E0.trans hE;replace hx:=hx.ext hE;replace hy:=hy.ext hE;replace hxn:=hxn.ext hE;replace hyn:=hyn.ext hE;replace hB1:=hB1.ext hE;clear hE hs hb;refine K1 (zV zAY fun b3 w3 hb hE hB3 hs => ?_);have hgb3:w.heap.size≤b3:=by rw [hb];exact E0.size
 have ne_b1_b3:b1≠b3:=by have:=hB1.lt;omega
 have ne_b2_b3:b2≠b3:=by have:=hB2.lt;omega
 replace E0:=E0.trans hE;replace hx:=hx.ext hE;replace hy:=hy.ext hE;replace hxn:=hxn.ext hE;replace hyn:=hyn.ext hE;replace hB1:=hB1.ext hE;replace hB2:=hB2.ext hE;clear hE hs hb;refine ag (rm [2,3,4] K ?_);refine zA (zA ?_);rcases (show y=0∨y≠0 from Classical.em _) with hy0 | hy0
 · obtain rfl:=hz3.2 hy0;refine K6 fun K=>K1 (zB zCJ rfl (K1 (zD zAb rfl hB2 rfl (K1 (zI zd rfl (K8 rfl (rs [2,3,4,9] K ?_)))))));refine wct rfl (rj fun K=>K1 (zT (cs := #[.bool false,.slice none 0 0,.slice none 0 0]) (by kernel_rfl) (K1 (zN rfl IsNum.zero (Cell3.of hB3 rfl) fun _ w9 hU hN => ?_))));replace E0:=E0.upd hU hgb3;obtain ⟨cs,hB4,hl4,hN4⟩:=hN;refine ag (rm [4,5] K ?_);refine zE (zU (zQ ?_));exact ⟨rfl,_,zW rfl rfl rfl rfl zy hB4 hl4,E0,_,by rw [if_pos hy0];rfl,by rw [hy0,Rat.div_def,Rat.inv_zero,Rat.mul_zero];exact hN4⟩
 · have hl:l3≠0:=fun e=>hy0 (hz3.1 e);refine K6 fun K=>K1 (zB zCJ rfl (K1 (zD zAb rfl hB2 rfl (K1 (zI zd rfl (K8 rfl (rs [2,3,4,9] K ?_)))))));refine wcf (congrArg Value.bool (beq_eq_false_iff_ne.2 (by omega))) (sk (zA ?_));have hnw:NoW [b3] _:=noW1 hB3 (by decide)
   refine zCk [⟨16,b3,Cell3 b3,NumAt b3 (x/y)⟩] [([(2,none)],none),([(11,some 0)],none),([(3,none)],none),([(13,some 0)],none),([(12,some 2),(14,some 0)],none),([(2,none)],none),([(16,some 0)],none),([(3,none)],none),([(18,some 0)],none),([(17,some 2),(19,some 0)],none),([(2,none)],none),([(21,some 0)],none),([(3,none)],none),([(23,some 0)],none),([(22,some 2),(24,some 0)],none),([(15,some 10),(20,some 5),(25,some 0)],none),([(4,none),(26,some 0)],none),([],none)] mixed (by kernel_rfl) (by kernel_rfl) (by kernel_rfl) (by simp) (by kernel_rfl) (all1 (zFc hB3 rfl)) fun K hK=>dsv rfl (fun σ wx hE hk=>zB zDC hk.1 ⟨Ext.refl _,rfl⟩) (dsv rfl (fun σ wx hE hk=>zD zCg hk.1 (hB1.extS hE (nin1 ne_b1_b3)) rfl ⟨Ext.refl _,rfl⟩) (dsv rfl (fun σ wx hE hk=>zB zDC hk.1 ⟨Ext.refl _,rfl⟩) (dsv rfl (fun σ wx hE hk=>zD zCg hk.1 (hB2.extS hE (nin1 ne_b2_b3)) rfl ⟨Ext.refl _,rfl⟩) (dsv rfl (fun σ wx hE hk=>zKH zMV hk.1 hk.2.1 ⟨Ext.refl _,rfl⟩) (dsv rfl (fun σ wx hE hk=>zB zCJ hk.1 ⟨Ext.refl _,rfl⟩) (dsv rfl (fun σ wx hE hk=>zD zAb hk.1 (hB1.extS hE (nin1 ne_b1_b3)) rfl ⟨Ext.refl _,rfl⟩) (dsv rfl (fun σ wx hE hk=>zX zy hk.1 (hB2.extS hE (nin1 ne_b2_b3)) (Nat.le_of_ble_eq_true rfl) ⟨Ext.refl _,rfl⟩) (dsn (fun v w'=>IsW w' v (y.den)) rfl (fun _ _ _ h1 hx h=>h.extS hx (hnw.ext h1)) (fun σ wx hE hk=>zH hb104 (CallK.of_ret (zCU (IsNum.of_eq hk.1 (hy.extS hE hnw))) fun v w2 hX hr=>⟨hX,hr⟩) rfl) (dsn (fun v w'=>IsW w' v (x.num.natAbs*y.den)) rfl (fun _ _ _ h1 hx h=>h.extS hx (hnw.ext h1)) (fun σ wx hE hk=>zH hb103 (CallK.of_ret (zEe (IsW.of_eq hk.1 (hxn.extS hE hnw)) hk.2.1 hf.xn hf.yd) fun v w2 hX hr=>⟨hX,hr⟩) rfl) (dsv rfl (fun σ wx hE hk=>zX zy hk.1 (hB1.extS hE (nin1 ne_b1_b3)) (Nat.le_of_ble_eq_true rfl) ⟨Ext.refl _,rfl⟩) (dsn (fun v w'=>IsW w' v (x.den)) rfl (fun _ _ _ h1 hx h=>h.extS hx (hnw.ext h1)) (fun σ wx hE hk=>zH hb104 (CallK.of_ret (zCU (IsNum.of_eq hk.1 (hx.extS hE hnw))) fun v w2 hX hr=>⟨hX,hr⟩) rfl) (dsv rfl (fun σ wx hE hk=>zB zCJ hk.1 ⟨Ext.refl _,rfl⟩) (dsv rfl (fun σ wx hE hk=>zD zAb hk.1 (hB2.extS hE (nin1 ne_b2_b3)) rfl ⟨Ext.refl _,rfl⟩) ?_)))))))))))))
   refine dsn (fun v w'=>IsW w' v (x.den*y.num.natAbs)) rfl (fun _ _ _ h1 hx h=>h.extS hx (hnw.ext h1)) (fun σ wx hE hk=>zH hb103 (CallK.of_ret (zEe hk.1 (IsW.of_eq hk.2.1 (hyn.extS hE hnw)) hf.xd hf.yn) fun v w2 hX hr=>⟨hX,hr⟩) rfl) ?_;refine dsn (fun v w'=>IsNum w' v (x/y)) rfl (fun _ _ _ h1 hx h=>h.extS hx (hnw.ext h1)) (fun σ wx hE hk=>zH hb102 (CallK.eq3 hk.1 rfl rfl (CallK.of_ret (zBZ hk.2.1 hk.2.2.1 (Nat.mul_ne_zero x.den_nz (fun e=>hy0 (Rat.num_eq_zero.1 (Int.natAbs_eq_zero.1 e)))) hf.nd hf.dn) fun v w2 hX hr=>⟨hX,by rw [q_div x y hy0];exact hr⟩)) rfl) ?_;refine dss _ rfl (fun σ wx hE hpre hk=>zAt hk.1 hk.2.1 hpre) (dsv rfl (fun σ wx hE hk=>zS ⟨Ext.refl _,rfl⟩) (zHy (hK _ fun wq hS hP => ?_)));rintro _ rfl _ rfl _ rfl _ rfl _ rfl _ rfl _ rfl _ rfl v19 N19 v20 N20 _ rfl v22 N22 _ rfl _ rfl v25 N25 v26 N26 _ _ _ rfl;refine zh ?_;obtain ⟨⟨cs,hB4,hl4,hN4⟩,-⟩:=hP;replace E0:=E0.updS hS hgb3;refine zM (K5 [4,5] ?_);refine zE (zQ ?_);exact ⟨rfl,_,zW rfl rfl rfl rfl zy hB4 hl4,E0,_,by rw [if_neg hy0];rfl,hN4⟩
theorem zDq {x y:Rat} (hx:IsNum w u x) (hy:IsNum w v y) (hr:rroom x y=true):Ret prog 73 #[u,v] w (fun r _=>r = .int .i64 (rcmpI x y)):=by
 have hf:=zGJ hr;obtain ⟨p1,l1,k1,p2,l2,k2,rfl,hz1,hz2,hxn,hxd,hb1,hb2⟩:=hx.formF hf.xn hf.xd;obtain ⟨p3,l3,k3,p4,l4,k4,rfl,hz3,hz4,hyn,hyd,hb3,hb4⟩:=hy.formF hf.yn hf.yd;refine J0 34 func73 rfl (rj fun K => ?_);refine K1 (zt fun b1 w1 hb hE hB1 hs => ?_);have hgb1:w.heap.size≤b1:=by rw [hb];exact E0.size
 replace E0:=E0.trans hE;replace hx:=hx.ext hE;replace hy:=hy.ext hE;replace hxn:=hxn.ext hE;replace hyn:=hyn.ext hE;clear hE hs hb;refine K1 (zt fun b2 w2 hb hE hB2 hs => ?_);have hgb2:w.heap.size≤b2:=by rw [hb];exact E0.size
 have ne_b1_b2:b1≠b2:=by have:=hB1.lt;omega
 replace E0:=E0.trans hE;replace hx:=hx.ext hE;replace hy:=hy.ext hE;replace hxn:=hxn.ext hE;replace hyn:=hyn.ext hE;replace hB1:=hB1.ext hE;clear hE hs hb;refine ag (rm [2,3] K ?_);refine zA (zAK [([(2,none)],none),([(7,some 0)],none),([(3,none)],none),([(9,some 0)],none),([(8,some 2)],none),([(10,some 1)],none)] mixed (by kernel_rfl) (by kernel_rfl) (by kernel_rfl) fun K hK=>dvp (fun σ wx hE hk=>zX zy hk.1 (hB1.ext hE) (Nat.le_of_ble_eq_true rfl) ⟨Ext.refl _,rfl⟩) (dvp (fun σ wx hE hk=>zH hb19 (CallK.of_ret (Sign_ok (IsNum.of_eq hk.1 (hx.ext hE))) fun v w2 hX hr=>⟨hX,hr⟩) rfl) (dvp (fun σ wx hE hk=>zX zy hk.1 (hB2.ext hE) (Nat.le_of_ble_eq_true rfl) ⟨Ext.refl _,rfl⟩) (dvp (fun σ wx hE hk=>zH hb19 (CallK.of_ret (Sign_ok (IsNum.of_eq hk.1 (hy.ext hE))) fun v w2 hX hr=>⟨hX,hr⟩) rfl) (dvp (fun σ wx hE hk=>zS ⟨Ext.refl _,hk.1⟩) (dvp (fun σ wx hE hk=>zS ⟨Ext.refl _,hk.1⟩) (zAi (hK _ fun wq hE => ?_))))))));rintro _ rfl _ rfl _ rfl _ rfl _ rfl _ rfl;refine zh ?_;replace E0:=E0.trans hE;replace hx:=hx.ext hE;replace hy:=hy.ext hE;replace hxn:=hxn.ext hE;replace hyn:=hyn.ext hE;replace hB1:=hB1.ext hE;replace hB2:=hB2.ext hE;clear hE;refine zM (K5 [2,3,5,6] ?_);refine zA (rJ fun K=>mv (K8 rfl (rm [2,3,5,6,13] K ?_)));refine K0 rfl ?_ ?_<;>intro hc
 · have hne:rsign x≠rsign y:=bne_iff_ne.1 hc;clear hc;refine rJ fun K=>mv (K8 rfl (K1 (zHj rfl rfl (K1 (zDn rfl rfl (ag (rm [4] K ?_)))))));exact zE (zU (en rfl E0 (congrArg (Value.int .i64) (cmp_signs hne))))
 · have heq:rsign x=rsign y:=bne_eq_false_iff_eq.1 hc;clear hc
   refine sk (zA (zAK [([(5,none)],none),([(2,none)],none),([(20,some 0)],none),([(3,none)],none),([(22,some 0)],none),([(21,some 2),(23,some 0)],none),([(3,none)],none),([(25,some 0)],none),([(2,none)],none),([(27,some 0)],none),([(26,some 2),(28,some 0)],none),([(24,some 5),(29,some 0)],none),([(30,some 0)],none),([(31,some 0)],none),([(19,some 13),(32,some 0)],none),([(33,some 0)],none)] mixed (by kernel_rfl) (by kernel_rfl) (by kernel_rfl) fun K hK=>dvp (fun σ wx hE hk=>zC ⟨Ext.refl _,hk.1⟩) (dvp (fun σ wx hE hk=>zB zCJ hk.1 ⟨Ext.refl _,rfl⟩) (dvp (fun σ wx hE hk=>zD zAb hk.1 (hB1.ext hE) rfl ⟨Ext.refl _,rfl⟩) (dvp (fun σ wx hE hk=>zX zy hk.1 (hB2.ext hE) (Nat.le_of_ble_eq_true rfl) ⟨Ext.refl _,rfl⟩) (dcp (fun v w'=>IsW w' v (y.den)) (fun _ _ _ _ hx h=>h.ext hx.toExt) (fun σ wx hE hk=>zH hb104 (CallK.of_ret (zCU (IsNum.of_eq hk.1 (hy.ext hE))) fun v w2 hX hr=>⟨hX,hr⟩) rfl) (dcp (fun v w'=>IsW w' v (x.num.natAbs*y.den)) (fun _ _ _ _ hx h=>h.ext hx.toExt) (fun σ wx hE hk=>zH hb103 (CallK.of_ret (zEe (IsW.of_eq hk.1 (hxn.ext hE)) hk.2.1 hf.xn hf.yd) fun v w2 hX hr=>⟨hX,hr⟩) rfl) (dvp (fun σ wx hE hk=>zB zCJ hk.1 ⟨Ext.refl _,rfl⟩) (dvp (fun σ wx hE hk=>zD zAb hk.1 (hB2.ext hE) rfl ⟨Ext.refl _,rfl⟩) (dvp (fun σ wx hE hk=>zX zy hk.1 (hB1.ext hE) (Nat.le_of_ble_eq_true rfl) ⟨Ext.refl _,rfl⟩) (dcp (fun v w'=>IsW w' v (x.den)) (fun _ _ _ _ hx h=>h.ext hx.toExt) (fun σ wx hE hk=>zH hb104 (CallK.of_ret (zCU (IsNum.of_eq hk.1 (hx.ext hE))) fun v w2 hX hr=>⟨hX,hr⟩) rfl) (dcp (fun v w'=>IsW w' v (y.num.natAbs*x.den)) (fun _ _ _ _ hx h=>h.ext hx.toExt) (fun σ wx hE hk=>zH hb103 (CallK.of_ret (zEe (IsW.of_eq hk.1 (hyn.ext hE)) hk.2.1 hf.yn hf.xd) fun v w2 hX hr=>⟨hX,hr⟩) rfl) ?_))))))))))))
   refine dcp (fun v _=>∃ c,v = .int .i64 c∧CmpIs c (x.num.natAbs*y.den) (y.num.natAbs*x.den)) (fun _ _ _ _ _ h=>h) (fun σ wx hE hk=>zH hb174 (CallK.of_ret (zMa hk.1 hk.2.1 hf.nd hf.nd') fun v w2 hX hr=>⟨hX,hr⟩) rfl) ?_;refine dcp (fun v _=>∃ c:Int,v = .int .i64 (if c<1 then c else 1)∧CmpIs c (x.num.natAbs*y.den) (y.num.natAbs*x.den)) (fun _ _ _ _ _ h=>h) (fun σ wx hE hk=>(by obtain ⟨c,e,hc⟩:=hk.1;exact zHj rfl e ⟨Ext.refl _,c,rfl,hc⟩)) ?_;refine dcp (fun v _=>∃ c:Int,v = .int .i64 (if (-1:Int)<(if c<1 then c else 1) then (if c<1 then c else 1) else -1)∧CmpIs c (x.num.natAbs*y.den) (y.num.natAbs*x.den)) (fun _ _ _ _ _ h=>h) (fun σ wx hE hk=>(by obtain ⟨c,e,hc⟩:=hk.1;exact zDn rfl e ⟨Ext.refl _,c,rfl,hc⟩)) ?_;refine dcp (fun v _=>v = .int .i64 (rcmpI x y)) (fun _ _ _ _ _ h=>h) (fun σ wx hE hk=>(by obtain ⟨c,e,hc⟩:=hk.2.1;exact zJ hk.1 e rfl ⟨Ext.refl _,congrArg (Value.int .i64) (cmp_same heq hc)⟩)) ?_;refine dcp (fun v _=>v = .int .i64 (rcmpI x y)) (fun _ _ _ _ _ h=>h) (fun σ wx hE hk=>zS ⟨Ext.refl _,hk.1⟩) (zAi (hK _ fun wq hE => ?_));rintro _ rfl _ rfl _ rfl _ rfl v23 N23 v24 N24 _ rfl _ rfl _ rfl v28 N28 v29 N29 v30 N30 v31 N31 v32 N32 v33 N33 v4 N4;refine zh ?_;replace E0:=E0.trans hE
   replace hx:=hx.ext hE;replace hy:=hy.ext hE;replace hxn:=hxn.ext hE;replace hyn:=hyn.ext hE;replace hB1:=hB1.ext hE;replace hB2:=hB2.ext hE;clear hE;refine zM (K5 [4] ?_);exact zE (en rfl E0 N4)
end Go.Proofs.YtjiendlfobjanaaGreatDoor
namespace Go.Proofs.YtjiendlfobjanaaGreatDoor
open Go Go.RowKit Go.Proofs Tryz
variable {T ty:TypeId} {af:Array Edge} {b c cap i ix k o sz':Nat} {cs:List Value} {g:Option (Nat×Bool)} {l:List Rat} {p:Option Addr} {pos:String} {q:Rat} {r:Option Nat} {u v:Value} {w w':World} {x y:Operand} {σ:Operand→Value}
def PRd (w:World) (p:Option Addr) (l:List Rat):Prop :=
 l=[]∨∃ b o cs,p=some ⟨b,o,none⟩∧Blk w b 37 cs∧o+3*l.length≤cs.length∧∀ i,i<l.length→IsNum w (.agg ((cs.drop (o+3*i)).take 3).toArray) (l.getD i 0)
def IsPoly (w:World) (v:Value) (l:List Rat):Prop:=∃ p cap,v = .slice p l.length cap∧l.length≤cap∧PRd w p l∧l.length≤4096
def IsOwn (sz:Nat) (w:World) (v:Value) (l:List Rat):Prop:=∃ p cap,v = .slice p l.length cap∧l.length≤cap∧PRd w p l∧l.length≤4096∧(l≠[]→∃ b,p=some ⟨b,0,none⟩∧sz≤b)
theorem IsOwn.poly {sz:Nat} (h:IsOwn sz w v l):IsPoly w v l:=by
 obtain ⟨p,c,h1,h2,h3,h4,_⟩:=h;exact ⟨p,c,h1,h2,h3,h4⟩
theorem IsOwn.sz {sz:Nat} (h:IsOwn sz w v l) (hs:sz'≤sz):IsOwn sz' w v l:=by
 obtain ⟨p,c,h1,h2,h3,h4,h5⟩:=h;exact ⟨p,c,h1,h2,h3,h4,fun hn=>let ⟨b,e1,e2⟩:=h5 hn;⟨b,e1,Nat.le_trans hs e2⟩⟩
theorem PRd.ext (h:PRd w p l) (hx:Ext w w'):PRd w' p l:=by
 rcases h with h | ⟨b,o,cs,h1,h2,h3,h4⟩
 · exact .inl h
 · exact .inr ⟨b,o,cs,h1,h2.ext hx,h3,fun i hi=>(h4 i hi).ext hx⟩
theorem IsPoly.ext (h:IsPoly w v l) (hx:Ext w w'):IsPoly w' v l:=by
 obtain ⟨p,c,h1,h2,h3,h4⟩:=h;exact ⟨p,c,h1,h2,h3.ext hx,h4⟩
theorem IsOwn.ext {sz:Nat} (h:IsOwn sz w v l) (hx:Ext w w'):IsOwn sz w' v l:=by
 obtain ⟨p,c,h1,h2,h3,h4,h5⟩:=h;exact ⟨p,c,h1,h2,h3.ext hx,h4,h5⟩
theorem IsPoly.of_eq (h:v=u) (hx:IsPoly w u l):IsPoly w v l:=h ▸ hx
theorem IsPoly.nil:IsPoly w (.slice none 0 0) []:=⟨none,0,rfl,Nat.le_refl _,.inl rfl,by decide⟩
theorem IsOwn.nil {sz:Nat}:IsOwn sz w (.slice none 0 0) []:=⟨none,0,rfl,Nat.le_refl _,.inl rfl,by decide,fun h=>absurd rfl h⟩
theorem PRd.upd (h:PRd w p l) (hu:Upd b w w') (hb:Blk w b 37 cs) (hp:∀ a,p=some a→l≠[]→a.block≠b):PRd w' p l:=by
 rcases h with h | ⟨c,o,cs',h1,h2,h3,h4⟩
 · exact .inl h
 · by_cases h0:l=[]
   · exact .inl h0
   · exact .inr ⟨c,o,cs',h1,h2.upd hu (hp _ h1 h0),h3,fun i hi=>(h4 i hi).upd hu hb (by decide)⟩
theorem PRd.lt (h:PRd w p l) (h0:l≠[]):∃ a,p=some a∧a.block<w.heap.size:=by
 rcases h with h | ⟨c,o,cs',h1,h2,h3,h4⟩
 · exact absurd h h0
 · exact ⟨_,h1,h2.lt⟩
theorem PRd.ne (h:PRd w p l) (hb:w.heap.size≤b):∀ a,p=some a→l≠[]→a.block≠b:=fun a ha h0=>by
 obtain ⟨a',h1,h2⟩:=h.lt h0;rw [ha] at h1;cases h1;omega
theorem PRd.at (h:PRd w p l) (hi:i<l.length):∃ b o cs,p=some ⟨b,o,none⟩∧Blk w b 37 cs∧o+3*i+3≤cs.length∧IsNum w (.agg ((cs.drop (o+3*i)).take 3).toArray) (l.getD i 0):=by
 rcases h with h | ⟨c,o,cs',h1,h2,h3,h4⟩
 · subst h;simp at hi
 · exact ⟨c,o,cs',h1,h2,by omega,h4 i hi⟩
theorem PRd.take (h:PRd w p l) (n:Nat):PRd w p (l.take n):=by
 rcases h with h | ⟨b,o,cs,h1,h2,h3,h4⟩
 · exact .inl (by rw [h];simp)
 · refine .inr ⟨b,o,cs,h1,h2,by simp;omega,fun i hi => ?_⟩;have hi':i<n∧i<l.length:=by simp at hi;omega
   have:=h4 i hi'.2;rwa [show (l.take n).getD i 0=l.getD i 0 from by simp [hi'.1]]
theorem PRd.cells (h:PRd w p l):∃ cs,Cells w p 37 cs∧cs.length=l.length*3∧∀ i,i<l.length→IsNum w (.agg ((cs.drop (3*i)).take 3).toArray) (l.getD i 0):=by
 rcases h with h | ⟨b,o,cs,h1,h2,h3,h4⟩
 · subst h;exact ⟨[],.inl rfl,rfl,fun i hi=>by simp at hi⟩
 · refine ⟨(cs.drop o).take (l.length*3),.inr ⟨b,o,cs,h1,h2,by simp⟩,by simp;omega,fun i hi => ?_⟩;have:=h4 i hi;rwa [show (((cs.drop o).take (l.length*3)).drop (3*i)).take 3=(cs.drop (o+3*i)).take 3 from by
    rw [List.drop_take,List.take_take,List.drop_drop,Nat.min_eq_left (by omega)]]
def PBlk (w:World) (b:Nat) (l:List Rat):Prop:=∃ cs,Blk w b 37 cs∧3*l.length≤cs.length∧∀ i,i<l.length→IsNum w (.agg ((cs.drop (3*i)).take 3).toArray) (l.getD i 0)
theorem PBlk.ext (h:PBlk w b l) (hx:Ext w w'):PBlk w' b l:=by
 obtain ⟨cs,h1,h2,h3⟩:=h;exact ⟨cs,h1.ext hx,h2,fun i hi=>(h3 i hi).ext hx⟩
theorem PBlk.lt (h:PBlk w b l):b<w.heap.size:=by obtain ⟨cs,h1,_⟩:=h;exact h1.lt
theorem PBlk.rd (h:PBlk w b l):PRd w (some ⟨b,0,none⟩) l:=by
 obtain ⟨cs,h1,h2,h3⟩:=h;exact .inr ⟨b,0,cs,rfl,h1,by omega,fun i hi=>by rw [Nat.zero_add];exact h3 i hi⟩
theorem PRd.blk (h:PRd w (some ⟨b,0,none⟩) l) (h0:l≠[]):PBlk w b l:=by
 rcases h with h | ⟨c,o,cs,h1,h2,h3,h4⟩
 · exact absurd h h0
 · cases h1;exact ⟨cs,h2,by omega,fun i hi=>by have:=h4 i hi;rwa [Nat.zero_add] at this⟩
theorem PBlk.upd (h:PBlk w b l) (hu:Upd c w w') (hc:Blk w c 37 cs) (hne:b≠c):PBlk w' b l:=by
 obtain ⟨cs',h1,h2,h3⟩:=h;exact ⟨cs',h1.upd hu hne,h2,fun i hi=>(h3 i hi).upd hu hc (by decide)⟩
theorem splice3 (cs:List Value) (o:Nat) (a b c:Value):zBI cs o [a,b,c]=((cs.set o a).set (o+1) b).set (o+2) c:=rfl
theorem zAz {a b c:Value} (hk:3*k+3≤cs.length):((zBI cs (3*k) [a,b,c]).drop (3*i)).take 3=if i=k then [a,b,c] else (cs.drop (3*i)).take 3:=by
 rw [splice3];apply List.ext_getElem?;intro j;by_cases hj:j<3
 · rw [List.getElem?_take,if_pos hj,List.getElem?_drop];by_cases hik:i=k
   · subst hik;rw [if_pos rfl];have h0:3*i<cs.length:=by omega
     have h1:3*i+1<cs.length:=by omega
     have h2:3*i+2<cs.length:=by omega
     match j,hj with
     | 0,_=>simp [List.getElem?_set,h0,h1,h2]
     | 1,_=>simp [List.getElem?_set,h0,h1,h2]
     | 2,_=>simp [List.getElem?_set,h0,h1,h2]
   · rw [if_neg hik,List.getElem?_set_ne (by omega),List.getElem?_set_ne (by omega),List.getElem?_set_ne (by omega),List.getElem?_take,if_pos hj,List.getElem?_drop]
 · rw [List.getElem?_take,if_neg hj];split
   · rw [List.getElem?_eq_none (by simp;omega)]
   · rw [List.getElem?_take,if_neg hj]
section laws
variable {K:Value→World→Prop} {d:Option Tmp}
theorem zBC (hx:σ x = .pointer (some ⟨b,o,none⟩)) (ho:o=3*k) (hy:IsNum w (σ y) q) (hB:PBlk w b l) (hk:k<l.length)
 (hc:∀ v w',Upd b w w'→PBlk w' b (l.set k q)→K v w'):Runs prog r ⟨d,.store 37 x y,ty,pos,af,g⟩ σ w K:=by
 subst ho;obtain ⟨cs,hB,hl,hN⟩:=hB;have hy0:=hy;obtain ⟨n,dd,he,hn,hd⟩:=hy;obtain ⟨p1,ds1,c1,rfl,-⟩:=hn;obtain ⟨p2,ds2,c2,rfl,-⟩:=hd;refine zc zGp hx hB (by rw [he];rfl) (by omega) (by decide) (by rw [he];rfl) fun w' hU hS=>hc _ w' hU ?_;rw [he] at hS hy0;refine ⟨_,hS,by rw [zAh,List.length_set];exact hl,fun i hi => ?_⟩;rw [List.length_set] at hi;show IsNum w' (.agg (((zBI cs (3*k) [_,_,_]).drop (3*i)).take 3).toArray) _;rw [zAz (by omega)];by_cases hik:i=k
 · subst hik;rw [if_pos rfl,show (l.set i q).getD i 0=q from by simp [hi]];exact hy0.upd hU hB (by decide)
 · rw [if_neg hik,show (l.set k q).getD i 0=l.getD i 0 from by simp [List.getElem?_set_ne (Ne.symm hik)]];exact (hN i hi).upd hU hB (by decide)
theorem zAo (hx:σ x = .pointer (some ⟨b,o,none⟩)) (hB:Blk w b T cs) (hl:o+3≤cs.length) (hN:IsNum w (.agg ((cs.drop o).take 3).toArray) q) (hk:∀ v,IsNum w v q→K v w) :
 Runs prog r ⟨d,.load 37 x,ty,pos,af,g⟩ σ w K:=zX zy hx hB hl (hk _ hN)
theorem za (hx:σ x = .pointer (some ⟨b,0,none⟩)) (h:NumAt b q w) (hk:∀ v,IsNum w v q→K v w):Runs prog r ⟨d,.load 37 x,ty,pos,af,g⟩ σ w K:=by
 obtain ⟨cs,hB,hl,hN⟩:=h;refine zAo hx hB (by omega) ?_ hk;rw [List.drop_zero,List.take_of_length_le (by omega)];exact hN
theorem runs_pload (hP:PRd w p l) (hi:i<l.length) (hx:σ x = .pointer (p.map fun a=>a.add (3*i))) (hk:∀ v,IsNum w v (l.getD i 0)→K v w):Runs prog r ⟨d,.load 37 x,ty,pos,af,g⟩ σ w K:=by
 obtain ⟨b,o,cs,h1,h2,h3,h4⟩:=hP.at hi;rw [h1] at hx;exact zAo (o:=o+3*i) (by rw [hx];simp [zAa]) h2 h3 h4 hk
theorem zAB:zAV prog 25 37 3:=by unfold zAV;exact ⟨by kernel_rfl,by kernel_rfl⟩
theorem zAc:prog.underlying 25=some (.slice 37):=by kernel_rfl
theorem runs_pindex {i:Operand} {k:IntKind} (hP:PRd w p l) (hx:σ x = .slice p l.length cap) (hi:σ i = .int k (ix:Int)) (h1:ix<l.length) (hk:K (.pointer (p.map fun a=>a.add (3*ix))) w):Runs prog r ⟨d,.indexAddr 25 x i,ty,pos,af,g⟩ σ w K:=by
 obtain ⟨b,o,cs,e1,h2,h3,h4⟩:=hP.at h1;subst e1;refine zG zAB hx hi (by omega) (by omega) ?_;rw [show o+((ix:Nat):Int).toNat*3=o+3*ix from by omega];simpa [zAa] using hk
end laws
end Go.Proofs.YtjiendlfobjanaaGreatDoor
namespace Go.Proofs.YtjiendlfobjanaaGreatDoor
open Go Go.RowKit Go.Proofs Tryz
set_option maxRecDepth 10000
set_option maxHeartbeats 2000000
attribute [local irreducible] Runs WPE CallK Ret
variable {E c i k m n:Nat} {P:Program} {af:Array Edge} {cs:List Value} {g:Option (Nat×Bool)} {l:List Rat} {p:Option Addr} {pos:String} {r:Option Nat} {t' ty:TypeId} {u v:Value} {w w':World} {x y:Operand} {σ:Operand→Value}
theorem up_isW {x:Value} (hx:IsW w x n) (hf:Fit n) (hk:k≤64):Ret prog 267 #[x,.int .i64 (k:Int)] w (fun v w'=>IsW w' v (n*2^k)):=by
 obtain ⟨p,ds,c,rfl,h2,h3,h4,h5⟩:=hx;have hl:=h4.fit (h5 ▸ hf);refine (up_ok h3 h4.1 (by omega) (by omega)).mono fun v w' _ h => ?_;obtain ⟨ob,es,O,e1,e2,e3,e4,e5,e6,e7,e8⟩:=h;exact ⟨_,es,_,e1,e2,e3,e4,by rw [e5,h5]⟩
theorem q_half (x:Rat):x*(1/2)=qOf (decide (x<0)) x.num.natAbs (x.den*2^1):=by
 rw [q_mul x (1/2),show decide ((1/2:Rat)<0)=false from by decide +kernel,show (1/2:Rat).num.natAbs=1 from by decide +kernel,show (1/2:Rat).den=2 from by decide +kernel,Nat.mul_one,Bool.bne_false]
theorem fit_half {x:Rat} (hr:rroom x (1/2)=true):Fit (x.den*2^1):=by
 have:=(zGJ hr).dd;rwa [show (1/2:Rat).den=2^1 from by decide +kernel] at this
theorem zJp:zAA prog 47 0 0:=by unfold zAA;kernel_rfl
theorem zMI:zAA prog 47 1 3:=by unfold zAA;kernel_rfl
def zHn (w:World) (v:Value) (a b:Rat):Prop:=∃ n1 d1 n2 d2,v = .agg #[.bool (decide (a<0)),n1,d1,.bool (decide (b<0)),n2,d2]∧IsNum w (.agg #[.bool (decide (a<0)),n1,d1]) a∧IsNum w (.agg #[.bool (decide (b<0)),n2,d2]) b
theorem zHn.ext {a b:Rat} (h:zHn w v a b) (hx:Ext w w'):zHn w' v a b:=by
 obtain ⟨n1,d1,n2,d2,h1,h2,h3⟩:=h;exact ⟨n1,d1,n2,d2,h1,h2.ext hx,h3.ext hx⟩
theorem zDx:(prog.info? 37).map (fun i=>(i.zero,i.size,i.bytes))=some (some (.agg #[.bool false,.slice none 0 0,.slice none 0 0]),3,56):=by kernel_rfl
section laws
variable {K:Value→World→Prop} {d:Option Tmp}
theorem run_eqGuard_slice (op:BinOp) (t:TypeId) (x y:Operand) (p q:Option Addr) (l c l' c':Nat) (w:World):(eqGuard op t x y (.slice p l c) (.slice q l' c')).run P w = .ok () w:=by
 unfold eqGuard;cases op<;>simp
theorem zFr {t e:TypeId} {l:Nat} (hT:P.underlying t=some (.slice e)) (hx:σ x = .slice p l c) (hy:σ y = .slice none 0 0) (hk:K (.bool p.isNone) w):Runs P r ⟨d,.binOp .eql t x y t',ty,pos,af,g⟩ σ w K:=by
 refine zo (fun _ e=>by cases e) ?_ hk;simp [execOp,binOp,hx,hy,run_eqGuard_slice,run_equal_slice_nil w t e p l c hT]
theorem zEW {T:Nat} (hT:P.underlying T=some (.slice E)) (hi:(P.info? E).map (·.size)=some n) (hk:∀ b w',b=w.heap.size→Ext w w'→w'.heap.size=b+1→K (.slice (some ⟨b,0,none⟩) 0 0) w'):Runs P r ⟨d,.buildSlice T 0 #[],ty,pos,af,g⟩ σ w K:=by
 refine zBD (fun _ e=>by cases e) (v := .slice (some ⟨w.heap.size,0,none⟩) 0 0) (w':={ w with heap:=w.heap.push (.cells #[] E) }) ?_ (hk _ _ rfl (Ext.push _) (by simp));simp only [execOp,Instr.buildSlice];simp [run_underlying hT,run_sizeOf' hi,Instr.fill,newRow];exact congrArg (fun c=>w.alloc (Obj.cells c E)) (Array.eq_empty_of_size_eq_zero (by simp))
end laws
theorem zCy {rest:List Value} (h:3*i+3≤cs.length):((cs++rest).drop (3*i)).take 3=(cs.drop (3*i)).take 3:=by
 rw [List.drop_append_of_le_length (by omega),List.take_append_of_le_length (by simp;omega)]
theorem zEO (h:m<l.length):l.take (m+1)=l.take m++[l.getD m 0]:=by
 rw [List.take_succ_eq_append_getElem h];simp [h]
theorem trim_zero (h:m<l.length) (h0:l.getD m 0=0):trim (l.take (m+1))=trim (l.take m):=by
 rw [zEO h,h0];simp [trim]
theorem trim_top (h:m<l.length) (h0:l.getD m 0≠0):trim (l.take (m+1))=l.take (m+1):=by
 rw [zEO h];generalize l.getD m 0=x at *;simp [trim,h0]
theorem zFG {x:Rat}:rsign x=0↔x=0:=by
 unfold rsign;rw [Int.sign_eq_zero_iff_zero,Rat.num_eq_zero]
def rminR (x y:Rat):Rat:=if rcmpI y x<0 then y else x
theorem Min_ok {x y:Rat} (hx:IsNum w u x) (hy:IsNum w v y) (hr:rroom y x=true):Ret prog 81 #[u,v] w (fun r w'=>IsNum w' r (rminR x y)):=by
 have hx0:=hx;have hy0:=hy;obtain ⟨xn,xd,rfl,hxn,hxd⟩:=hx0;obtain ⟨yn,yd,rfl,hyn,hyd⟩:=hy0;refine J0 11 func81 rfl (rj fun K => ?_);refine K1 (zt fun b1 w1 hb hE hB1 hs => ?_);have hgb1:w.heap.size≤b1:=by rw [hb];exact E0.size
 replace E0:=E0.trans hE;replace hx:=hx.ext hE;replace hy:=hy.ext hE;clear hE hs hb;refine K1 (zt fun b2 w2 hb hE hB2 hs => ?_);have hgb2:w.heap.size≤b2:=by rw [hb];exact E0.size
 have ne_b1_b2:b1≠b2:=by have:=hB1.lt;omega
 replace E0:=E0.trans hE;replace hx:=hx.ext hE;replace hy:=hy.ext hE;replace hB1:=hB1.ext hE;clear hE hs hb;refine K1 (zV zAY fun b3 w3 hb hE hB3 hs => ?_);have hgb3:w.heap.size≤b3:=by rw [hb];exact E0.size
 have ne_b1_b3:b1≠b3:=by have:=hB1.lt;omega
 have ne_b2_b3:b2≠b3:=by have:=hB2.lt;omega
 replace E0:=E0.trans hE;replace hx:=hx.ext hE;replace hy:=hy.ext hE;replace hB1:=hB1.ext hE;replace hB2:=hB2.ext hE;clear hE hs hb;refine rm [2,3,4] K ?_;refine zA (rj fun K=>K1 (zX zy rfl hB2 (Nat.le_of_ble_eq_true rfl) (K1 (zX zy rfl hB1 (Nat.le_of_ble_eq_true rfl) (K1 (j5 E0 hx.ext hy.ext hB1.ext hB2.ext hB3.ext hb73 (zDq hy hx hr) fun v1_2 w4 E0 hx hy hB1 hB2 hB3 hr => ?_))))));subst hr;refine K8 rfl (rm [2,3,4,8] K ?_);refine K0 rfl ?_ ?_<;>intro hc
 · have hlt:rcmpI y x<0:=of_decide_eq_true hc;clear hc;refine rj fun K=>K1 (zX zy rfl hB2 (Nat.le_of_ble_eq_true rfl) (K1 (zN rfl hy (Cell3.of hB3 rfl) fun _ w9 hU hN => ?_)));replace E0:=E0.upd hU hgb3;obtain ⟨cs,hB4,hl4,hN4⟩:=hN;refine rm [4] K ?_;refine zE (zU (zQ ?_));exact ⟨rfl,_,zv rfl rfl rfl zy hB4 hl4,E0,by rw [rminR,if_pos hlt];exact hN4⟩
 · have hlt:¬ rcmpI y x<0:=of_decide_eq_false hc;clear hc;refine sk (rj fun K=>K1 (zX zy rfl hB1 (Nat.le_of_ble_eq_true rfl) (K1 (zN rfl hx (Cell3.of hB3 rfl) fun _ w9 hU hN => ?_))));replace E0:=E0.upd hU hgb3;obtain ⟨cs,hB4,hl4,hN4⟩:=hN;refine rm [4] K ?_;refine zE (zQ ?_);exact ⟨rfl,_,zv rfl rfl rfl zy hB4 hl4,E0,by rw [rminR,if_neg hlt];exact hN4⟩
theorem shifted_ok {x:Rat} (hx:IsNum w v x) (hr:rroom x (1/2)=true):Ret prog 223 #[v,.int .i64 (-1)] w (fun r w'=>IsNum w' r (x*(1/2))):=by
 have hf:=zGJ hr;have hx0:=hx;obtain ⟨xn,xd,rfl,hxn,hxd⟩:=hx0;refine J0 26 func223 rfl (rj fun K => ?_);refine K1 (zt fun b1 w1 hb hE hB1 hs => ?_);have hgb1:w.heap.size≤b1:=by rw [hb];exact E0.size
 replace E0:=E0.trans hE;replace hx:=hx.ext hE;replace hxn:=hxn.ext hE;clear hE hs hb;refine K1 (zV zAY fun b2 w2 hb hE hB2 hs => ?_);have hgb2:w.heap.size≤b2:=by rw [hb];exact E0.size
 have ne_b1_b2:b1≠b2:=by have:=hB1.lt;omega
 replace E0:=E0.trans hE;replace hx:=hx.ext hE;replace hxn:=hxn.ext hE;replace hB1:=hB1.ext hE;clear hE hs hb;refine rm [1,2,4] K ?_;refine zA (rJ fun K=>K8 rfl (rm [1,2,4,6] K ?_));refine wct rfl (zA ?_);have hnw:NoW [b2] _:=noW1 hB2 (by decide)
 refine zCk [⟨10,b2,Cell3 b2,NumAt b2 (x*(1/2))⟩] [([(2,none)],none),([(7,some 0)],none),([(2,none)],none),([(9,some 0)],none),([(2,none)],none),([(11,some 0)],none),([(1,none)],none),([(13,some 0)],none),([(12,some 2),(14,some 0)],none),([(8,some 7),(10,some 5),(15,some 0)],none),([(4,none),(16,some 0)],none)] mixed (by kernel_rfl) (by kernel_rfl) (by kernel_rfl) (by simp) (by kernel_rfl) (all1 (zFc hB2 rfl)) fun K hK=>dsv rfl (fun σ wx hE hk=>zB zDC hk.1 ⟨Ext.refl _,rfl⟩) (dsv rfl (fun σ wx hE hk=>zD zCg hk.1 (hB1.extS hE (nin1 ne_b1_b2)) rfl ⟨Ext.refl _,rfl⟩) (dsv rfl (fun σ wx hE hk=>zB zCJ hk.1 ⟨Ext.refl _,rfl⟩) (dsv rfl (fun σ wx hE hk=>zD zAb hk.1 (hB1.extS hE (nin1 ne_b1_b2)) rfl ⟨Ext.refl _,rfl⟩) (dsv rfl (fun σ wx hE hk=>zX zy hk.1 (hB1.extS hE (nin1 ne_b1_b2)) (Nat.le_of_ble_eq_true rfl) ⟨Ext.refl _,rfl⟩) (dsn (fun v w'=>IsW w' v (x.den)) rfl (fun _ _ _ h1 hx h=>h.extS hx (hnw.ext h1)) (fun σ wx hE hk=>zH hb104 (CallK.of_ret (zCU (IsNum.of_eq hk.1 (hx.extS hE hnw))) fun v w2 hX hr=>⟨hX,hr⟩) rfl) (dsv rfl (fun σ wx hE hk=>zC ⟨Ext.refl _,hk.1⟩) (dsv rfl (fun σ wx hE hk=>zJL hk.1 ⟨Ext.refl _,rfl⟩) (dsn (fun v w'=>IsW w' v (x.den*2^1)) rfl (fun _ _ _ h1 hx h=>h.extS hx (hnw.ext h1)) (fun σ wx hE hk=>zH hb267 (CallK.eq2 rfl hk.2.1 (CallK.of_ret (up_isW (k:=1) hk.1 hf.xd (by decide)) fun v w2 hX hr=>⟨hX,hr⟩)) rfl) ?_))))))))
 refine dsn (fun v w'=>IsNum w' v (x*(1/2))) rfl (fun _ _ _ h1 hx h=>h.extS hx (hnw.ext h1)) (fun σ wx hE hk=>zH hb102 (CallK.eq3 hk.1 rfl rfl (CallK.of_ret (zBZ (IsW.of_eq hk.2.1 (hxn.extS hE hnw)) hk.2.2.1 (Nat.mul_ne_zero x.den_nz (by decide)) hf.xn (fit_half hr)) fun v w2 hX hr=>⟨hX,by rw [q_half];exact hr⟩)) rfl) ?_;refine dss _ rfl (fun σ wx hE hpre hk=>zAt hk.1 hk.2.1 hpre) (zHy (hK _ fun wq hS hP => ?_));rintro _ rfl _ rfl _ rfl _ rfl _ rfl v12 N12 _ rfl _ rfl v15 N15 v16 N16 _ _;refine zh ?_;obtain ⟨⟨cs,hB4,hl4,hN4⟩,-⟩:=hP;replace E0:=E0.updS hS hgb2;refine zM (K5 [4] ?_);exact zE (zU (zQ ⟨rfl,_,zv rfl rfl rfl zy hB4 hl4,E0,hN4⟩))
theorem SpanMid_ok {a b:Rat} (hs:zHn w v a b) (hr:rroom a b=true) (hr2:rroom (a+b) (1/2)=true):Ret prog 138 #[v] w (fun r w'=>IsNum w' r ((a+b)*(1/2))):=by
 obtain ⟨n1,d1,n2,d2,rfl,hx,hy⟩:=hs;refine J0 9 func138 rfl (rj fun K => ?_);refine K1 (zt fun b1 w1 hb hE hB1 hs => ?_);have hgb1:w.heap.size≤b1:=by rw [hb];exact E0.size
 replace E0:=E0.trans hE;replace hx:=hx.ext hE;replace hy:=hy.ext hE;clear hE hs hb;refine K1 (zV zAY fun b2 w2 hb hE hB2 hs => ?_);have hgb2:w.heap.size≤b2:=by rw [hb];exact E0.size
 have ne_b1_b2:b1≠b2:=by have:=hB1.lt;omega
 replace E0:=E0.trans hE;replace hx:=hx.ext hE;replace hy:=hy.ext hE;replace hB1:=hB1.ext hE;clear hE hs hb;refine rm [1,2] K ?_;refine rj fun K=>K1 (zB zJp rfl (K1 (zX zy rfl hB1 (Nat.le_of_ble_eq_true rfl) (K1 (zB zMI rfl (K1 (zX zy rfl hB1 (Nat.le_of_ble_eq_true rfl) (K1 (j4 E0 hx.ext hy.ext hB1.ext hB2.ext hb146 (Add_ok hx hy hr) fun v1_4 w3 E0 hx hy hB1 hB2 N7=>K1 (j5 E0 hx.ext hy.ext hB1.ext hB2.ext N7.ext hb223 (shifted_ok N7 hr2) fun v1_5 w4 E0 hx hy hB1 hB2 N7 N8=>K1 (zN rfl N8 (Cell3.of hB2 rfl) fun _ w9 hU hN => ?_)))))))))));replace E0:=E0.upd hU hgb2;obtain ⟨cs,hB4,hl4,hN4⟩:=hN;refine rm [2] K ?_;exact zE (zQ ⟨rfl,_,zv rfl rfl rfl zy hB4 hl4,E0,hN4⟩)
theorem SpanWidth_ok {a b:Rat} (hs:zHn w v a b) (hr:rroom b a=true):Ret prog 147 #[v] w (fun r w'=>IsNum w' r (rabs (b-a))):=by
 obtain ⟨n1,d1,n2,d2,rfl,hx,hy⟩:=hs;refine J0 9 func147 rfl (rj fun K => ?_);refine K1 (zt fun b1 w1 hb hE hB1 hs => ?_);have hgb1:w.heap.size≤b1:=by rw [hb];exact E0.size
 replace E0:=E0.trans hE;replace hx:=hx.ext hE;replace hy:=hy.ext hE;clear hE hs hb;refine K1 (zV zAY fun b2 w2 hb hE hB2 hs => ?_);have hgb2:w.heap.size≤b2:=by rw [hb];exact E0.size
 have ne_b1_b2:b1≠b2:=by have:=hB1.lt;omega
 replace E0:=E0.trans hE;replace hx:=hx.ext hE;replace hy:=hy.ext hE;replace hB1:=hB1.ext hE;clear hE hs hb;refine rm [1,2] K ?_;refine rj fun K=>K1 (zB zMI rfl (K1 (zX zy rfl hB1 (Nat.le_of_ble_eq_true rfl) (K1 (zB zJp rfl (K1 (zX zy rfl hB1 (Nat.le_of_ble_eq_true rfl) (K1 (j4 E0 hx.ext hy.ext hB1.ext hB2.ext hb237 (zNE hy hx hr) fun v1_4 w3 E0 hx hy hB1 hB2 N7=>K1 (j5 E0 hx.ext hy.ext hB1.ext hB2.ext N7.ext hb236 (zMu N7) fun v1_5 w4 E0 hx hy hB1 hB2 N7 N8=>K1 (zN rfl N8 (Cell3.of hB2 rfl) fun _ w9 hU hN => ?_)))))))))));replace E0:=E0.upd hU hgb2;obtain ⟨cs,hB4,hl4,hN4⟩:=hN;refine rm [2] K ?_;exact zE (zQ ⟨rfl,_,zv rfl rfl rfl zy hB4 hl4,E0,hN4⟩)
theorem zGw {x y:Rat} (hx:IsNum w u x) (hy:IsNum w v y) (hr:rroom x y=true):Ret prog 69 #[u,v] w (fun r w'=>IsNum w' r (x/y)):=by
 have hx0:=hx;have hy0:=hy;obtain ⟨xn,xd,rfl,hxn,hxd⟩:=hx0;obtain ⟨yn,yd,rfl,hyn,hyd⟩:=hy0;refine J0 14 func69 rfl (rj fun K => ?_);refine K1 (zt fun b1 w1 hb hE hB1 hs => ?_);have hgb1:w.heap.size≤b1:=by rw [hb];exact E0.size
 replace E0:=E0.trans hE;replace hx:=hx.ext hE;replace hy:=hy.ext hE;clear hE hs hb;refine K1 (zt fun b2 w2 hb hE hB2 hs => ?_);have hgb2:w.heap.size≤b2:=by rw [hb];exact E0.size
 have ne_b1_b2:b1≠b2:=by have:=hB1.lt;omega
 replace E0:=E0.trans hE;replace hx:=hx.ext hE;replace hy:=hy.ext hE;replace hB1:=hB1.ext hE;clear hE hs hb;refine K1 (zV zAY fun b3 w3 hb hE hB3 hs => ?_);have hgb3:w.heap.size≤b3:=by rw [hb];exact E0.size
 have ne_b1_b3:b1≠b3:=by have:=hB1.lt;omega
 have ne_b2_b3:b2≠b3:=by have:=hB2.lt;omega
 replace E0:=E0.trans hE;replace hx:=hx.ext hE;replace hy:=hy.ext hE;replace hB1:=hB1.ext hE;replace hB2:=hB2.ext hE;clear hE hs hb;refine rm [2,3,4] K ?_;refine rj fun K=>K1 (zX zy rfl hB1 (Nat.le_of_ble_eq_true rfl) (K1 (zX zy rfl hB2 (Nat.le_of_ble_eq_true rfl) (K1 (j5 E0 hx.ext hy.ext hB1.ext hB2.ext hB3.ext hb37 (zMG hx hy hr) fun v1_2 w4 E0 hx hy hB1 hB2 hB3 hr => ?_)))));obtain ⟨q,rfl,hq⟩:=hr;refine mv (xt rfl (xt rfl ?_));refine K1 (zV zAY fun b5 w5 hb hE hB5 hs => ?_);have hgb5:w.heap.size≤b5:=by rw [hb];exact E0.size
 have ne_b1_b5:b1≠b5:=by have:=hB1.lt;omega
 have ne_b2_b5:b2≠b5:=by have:=hB2.lt;omega
 have ne_b3_b5:b3≠b5:=by have:=hB3.lt;omega
 replace E0:=E0.trans hE;replace hx:=hx.ext hE;replace hy:=hy.ext hE;replace hB1:=hB1.ext hE;replace hB2:=hB2.ext hE;replace hB3:=hB3.ext hE;replace hq:=hq.ext hE;clear hE hs hb;refine K1 (zN rfl hq (Cell3.of hB5 rfl) fun _ w9 hU hN5 => ?_);replace E0:=E0.upd hU hgb5;replace hB3:=hB3.upd hU ne_b3_b5;refine ag (rm [4,5] K ?_);refine rj fun K=>K1 (za rfl hN5 fun v13 hq2=>K1 (zN rfl hq2 (Cell3.of hB3 rfl) fun _ w9 hU hN => ?_));replace E0:=E0.upd hU hgb3;obtain ⟨cs,hB4,hl4,hN4⟩:=hN;refine rm [4] K ?_;exact zE (zQ ⟨rfl,_,zv rfl rfl rfl zy hB4 hl4,E0,hN4⟩)
theorem fone_ok:Ret prog 100 #[] w (fun r w'=>IsNum w' r 1):=by
 refine J0 2 func100 rfl (rj fun K => ?_);refine K1 (zV zAY fun b1 w1 hb hE hB1 hs => ?_);have hgb1:w.heap.size≤b1:=by rw [hb];exact E0.size
 replace E0:=E0.trans hE;clear hE hs hb;refine rm [0] K ?_;refine rj fun K=>K1 (j1 E0 hB1.ext hb38 (Int_ok (by decide) (by decide)) fun v1_0 w2 E0 hB1 N1=>K1 (zN rfl N1 (Cell3.of hB1 rfl) fun _ w9 hU hN => ?_));replace E0:=E0.upd hU hgb1;obtain ⟨cs,hB4,hl4,hN4⟩:=hN;refine rm [0] K ?_;exact zE (zQ ⟨rfl,_,zv rfl rfl rfl zy hB4 hl4,E0,hN4⟩)
theorem zHJ {a b:Int} (h1 : -9223372036854775808≤a) (h2:a≤9223372036854775807) (h3 : -9223372036854775808≤b) (h4:b≤9223372036854775807) (hr:rroom (a:Rat) (b:Rat)=true):Ret prog 96 #[.int .i64 a,.int .i64 b] w (fun r w'=>IsNum w' r ((a:Rat)/(b:Rat))):=by
 refine J0 10 func96 rfl (rj fun K => ?_);refine K1 (zV zAY fun b1 w1 hb hE hB1 hs => ?_);have hgb1:w.heap.size≤b1:=by rw [hb];exact E0.size
 replace E0:=E0.trans hE;clear hE hs hb;refine rm [0,1,4] K ?_;refine rJ fun K=>K1 (j1 E0 hB1.ext hb38 (Int_ok h1 h2) fun v1_1 w2 E0 hB1 N6=>mv (K1 (j2 E0 hB1.ext N6.ext hb38 (Int_ok h3 h4) fun v1_3 w3 E0 hB1 N6 N8=>K1 (j3 E0 hB1.ext N6.ext N8.ext hb69 (zGw N6 N8 hr) fun v1_4 w4 E0 hB1 N6 N8 N9=>K1 (zN rfl N9 (Cell3.of hB1 rfl) fun _ w9 hU hN => ?_)))));replace E0:=E0.upd hU hgb1;obtain ⟨cs,hB4,hl4,hN4⟩:=hN;refine rm [4] K ?_;exact zE (zQ ⟨rfl,_,zv rfl rfl rfl zy hB4 hl4,E0,hN4⟩)
theorem zFp (hp:IsPoly w v l):Ret prog 68 #[v] w (fun r w'=>IsOwn w.heap.size w' r l):=by
 obtain ⟨p,cap,rfl,hc,hP,hl⟩:=hp;refine J0 8 func68 rfl (rj fun K=>ag (rm [0] K ?_));refine zA (zA ?_);rcases p with _ | a
 · obtain rfl:l=[]:=by
    rcases hP with h | ⟨b,o,cs,h1,_⟩
    · exact h
    · cases h1
   refine rI fun K=>K1 (zFr zAc rfl rfl (rs [0,4] K ?_));refine wct rfl (rj fun K=>ag (rm [2] K ?_));exact zE (zU (en rfl E0 IsOwn.nil))
 · skip
   refine rI fun K=>K1 (zFr zAc rfl rfl (rs [0,4] K ?_));refine wcf rfl (sk (zA ?_));rcases (show l=[]∨l≠[] from Classical.em _) with h0 | h0
   · subst h0;refine K6 fun K=>K1 (zEW zAc zGp fun b0 w1 hb0 hE hs => ?_);have hgb0:w.heap.size≤b0:=by rw [hb0];exact E0.size
     replace E0:=E0.trans hE;replace hP:=hP.ext hE;clear hE hs hb0;refine mv (K1 (zEp zAc zAc zDx rfl rfl (Nat.le_refl _) (ag (rs [2] K ?_))));exact zE (en rfl E0 ⟨_,0,rfl,Nat.le_refl _,.inl rfl,by decide,fun h=>absurd rfl h⟩)
   · have hl0:0<l.length:=List.length_pos_iff.2 h0;refine K6 fun K=>K1 (zEW zAc zGp fun b0 w1 hb0 hE hs => ?_);have hgb0:w.heap.size≤b0:=by rw [hb0];exact E0.size
     replace E0:=E0.trans hE;replace hP:=hP.ext hE;clear hE hs hb0;refine mv ?_;obtain ⟨cs,hcs,hcl,hcn⟩:=hP.cells;refine K1 (zAO zAc zAc zDx rfl (by decide) rfl rfl (.inl rfl) rfl hcs hcl (by omega) (by have:=zAS (0+l.length) 0;omega) fun w2 rest c hcc hE hB hrest hs => ?_);rw [List.nil_append] at hB;refine ag (rs [2] K ?_);refine zE (zQ ?_);refine ⟨rfl,_,zj rfl rfl,E0.trans hE,some ⟨_,0,none⟩,c,?_,by omega,.inr ⟨_,0,_,rfl,hB,by simp;omega,fun i hi => ?_⟩,hl,fun _=>⟨_,rfl,E0.size⟩⟩
     · show Value.slice _ (0+l.length) c=_;rw [Nat.zero_add]
     · rw [Nat.zero_add,zCy (by omega)];exact (hcn i hi).ext hE
theorem zCY (hp:IsPoly w v l):Ret prog 34 #[v] w (fun r w'=>IsOwn w.heap.size w' r (trim l)):=by
 obtain ⟨p,cap,rfl,hc,hP,hl⟩:=hp;have E0:Ext w w:=Ext.refl w;refine J0 23 func34 rfl (rj fun K=>ag (rm [0] K ?_));refine zA (zF (zg (X:=Nat) (fun n ρ w'=>Keep ρ [(0,.slice p n cap)]∧n≤l.length∧Ext w w'∧trim (l.take n)=trim l) (fun n=>n) l.length ⟨(kp rfl),Nat.le_refl _,E0,by rw [List.take_length]⟩ ?_));clear E0;rintro n ρ1 w1 ⟨hk,hn,E0,ht⟩;refine wpe_k _ hk ?_;clear hk ρ1;refine zA (zA ?_);rcases n with _ | m
 · skip
   refine rI fun K=>K1 (zI zAB rfl (K9 false rfl (decide_eq_false (by omega)) (mv (K3 (K3 (K3 (K3 (K3 (K3 (K3 (K3 (pk rfl (rl K ?_)))))))))))));refine zM (K5 [0,7,8,9,10,11,12,13,14,15] ?_);refine wcf rfl (zY (zx (zl (zL (zM (zA ?_))))));have htt:trim l=l.take 0:=by rw [← ht];rfl
   refine K6 fun K=>mv ?_;have hlen:(trim l).length=0:=by rw [htt];simp<;>omega
   have hsz:=E0.size;refine K1 (j0 E0 hb68 (zFp (l:=trim l) ⟨p,cap,by rw [hlen];rfl,by omega,by rw [htt];exact (hP.ext E0).take _,by omega⟩) fun v3 w3 E0 hr => ?_);refine ag (rs [0,2] K ?_);exact zE (en rfl E0 (hr.sz hsz))
 · have hP1:=hP.ext E0;refine rI fun K=>K1 (zI zAB rfl (K9 true rfl (decide_eq_true (by omega)) (mv (K7 (K7 (K2 (zI zAB rfl (K2 (zAJ (b:=1) m rfl rfl rfl (by omega) ?_)))))))));have hmin:(l.take (m+1)).length=m+1:=by simp;omega
   refine K2 (runs_pindex (l:=l.take (m+1)) (cap:=cap) (ix:=m) (hP1.take (m+1)) (by rw [hmin];rfl) rfl (by omega) ?_);refine K2 (runs_pload (hP1.take (m+1)) (i:=m) (by omega) rfl fun v12 hN12 => ?_);rw [show (l.take (m+1)).getD m 0=l.getD m 0 from by simp] at hN12;refine K2 (zH hb19 (CallK.of_ret (Sign_ok hN12) fun v13 w2 hE hr => ?_) rfl);subst hr;replace E0:=E0.trans hE;clear hE hN12 hP1;refine K2 (zJ rfl rfl rfl (pk rfl (rs [0,7,8,9,10,11,12,13,14,15] K ?_)));refine K0 rfl ?_ ?_<;>intro hc
   · have hz:l.getD m 0=0:=zFG.1 (eq_of_beq hc);clear hc;exact sk (zF (rI fun K=>mv (K1 (zI zAB rfl (K1 (zAJ (b:=1) (m) rfl rfl rfl (by omega) (K1 (zBd zAB rfl rfl (by omega) (by omega) (ag (rl K (zR (zO (⟨rfl,m,⟨(kp rfl),by omega,E0,(trim_zero (by omega) hz).symm.trans ht⟩,by omega⟩)))))))))))))
   · have hz:l.getD m 0≠0:=fun e=>beq_eq_false_iff_ne.1 hc (zFG.2 e);clear hc;have htt:trim l=l.take (m+1):=by rw [← ht,trim_top (by omega) hz]
     refine zY (zx (zl (zL (zM (rj fun K=>mv ?_)))));have hlen:(trim l).length=m+1:=by rw [htt];simp<;>omega
     have hsz:=E0.size;refine K1 (j0 E0 hb68 (zFp (l:=trim l) ⟨p,cap,by rw [hlen];rfl,by omega,by rw [htt];exact (hP.ext E0).take _,by omega⟩) fun v3 w3 E0 hr => ?_);refine ag (rm [0,2] K ?_);exact zE (en rfl E0 (hr.sz hsz))
theorem zDw (hp:IsPoly w v l):Ret prog 18 #[v] w (fun r _=>r = .int .i64 (((trim l).length:Int)-1)):=by
 refine J0 7 func18 rfl (rj fun K=>ag (rm [0] K ?_));refine rJ fun K=>K1 (j0 E0 hb34 (zCY hp) fun v1_1 w1 E0 hr => ?_);obtain ⟨p,cap,rfl,_,_,hl,_⟩:=hr;refine K1 (zI zAB rfl (K1 (zJ (v := .int .i64 (((trim l).length:Int)-1)) rfl rfl (congrArg (fun z=>some (Value.int .i64 z)) (zm (by omega) (by omega))) (ag (rm [2] K ?_)))));exact zE (en rfl E0 rfl)
end Go.Proofs.YtjiendlfobjanaaGreatDoor
namespace Go.Proofs.YtjiendlfobjanaaGreatDoor
open Go Go.RowKit Go.Proofs Tryz
variable {A l:List Rat} {af:Array Edge} {b b2 c cap i ix k len o:Nat} {c1 c2 c3 v:Value} {cs:List Value} {g:Option (Nat×Bool)} {p:Option Addr} {pos:String} {q:Rat} {r:Option Nat} {ty:TypeId} {w w' w0:World} {x y:Operand} {α β:Type} {σ:Operand→Value}
theorem zEr {x y z:Rat} (h:radd x y=some z):rroom x y=true∧z=x+y:=by
 unfold radd at h;split at h
 · rename_i hr;cases h;exact ⟨hr,rfl⟩
 · cases h
theorem zKY {x y z:Rat} (h:rsub x y=some z):rroom x y=true∧z=x-y:=by
 unfold rsub at h;split at h
 · rename_i hr;cases h;exact ⟨hr,rfl⟩
 · cases h
theorem zCq {x y z:Rat} (h:rmul x y=some z):rroom x y=true∧z=x*y:=by
 unfold rmul at h;split at h
 · rename_i hr;cases h;exact ⟨hr,rfl⟩
 · cases h
theorem zDz {x y z:Rat} (h:rdiv x y=some z):rroom x y=true∧z=x/y:=by
 unfold rdiv at h;split at h
 · rename_i hr;cases h;exact ⟨hr,rfl⟩
 · cases h
theorem bind_some {o:Option α} {f:α→Option β} {b:β} (h:o.bind f=some b):∃ a,o=some a∧f a=some b:=by
 cases o with
 | none=>cases h
 | some a=>exact ⟨a,rfl,h⟩
theorem map_some {o:Option α} {f:α→β} {b:β} (h:o.map f=some b):∃ a,o=some a∧f a=b:=by
 cases o with
 | none=>cases h
 | some a=>exact ⟨a,rfl,Option.some.inj h⟩
theorem zDm (h:i<l.length):l.drop i=l.getD i 0 :: l.drop (i+1):=by
 rw [List.drop_eq_getElem_cons h];simp [h]
theorem NumAt.extS {S:List Nat} (h:NumAt b q w) (hx:ExtS S w w') (hb:b ∉ S) (hS:NoW S w):NumAt b q w':=by
 obtain ⟨cs,h1,h2,h3⟩:=h;exact ⟨cs,h1.extS hx hb,h2,h3.extS hx hS⟩
theorem NumAt.upd (h:NumAt b q w) (hu:Upd c w w') (hc:Blk w c 37 cs) (hne:b≠c):NumAt b q w':=by
 obtain ⟨cs',h1,h2,h3⟩:=h;exact ⟨cs',h1.upd hu hne,h2,h3.upd hu hc (by decide)⟩
theorem NumAt.lt (h:NumAt b q w):b<w.heap.size:=by obtain ⟨cs,h1,_⟩:=h;exact h1.lt
theorem noWP (h:PBlk w b l):NoW [b] w:=by
 obtain ⟨cs,h1,_⟩:=h;exact noW1 h1 (by decide)
theorem PRd.extS {S:List Nat} (h:PRd w p l) (hx:ExtS S w w') (hp:∀ a,p=some a→l≠[]→a.block ∉ S) (hS:NoW S w):PRd w' p l:=by
 rcases h with h | ⟨c,o,cs',h1,h2,h3,h4⟩
 · exact .inl h
 · by_cases h0:l=[]
   · exact .inl h0
   · exact .inr ⟨c,o,cs',h1,h2.extS hx (hp _ h1 h0),h3,fun i hi=>(h4 i hi).extS hx hS⟩
theorem zHG {O O':List Rat} (hB:PBlk w0 b O) :
 (⟨i,b,fun w=>PBlk w b O,fun w=>PBlk w b O'⟩:StoreSpec).blk<w0.heap.size∧(⟨i,b,fun w=>PBlk w b O,fun w=>PBlk w b O'⟩:StoreSpec).pre w0∧∀ w w',ExtS [b] w0 w→ExtS [b] w w'→w'.heap[(⟨i,b,fun w=>PBlk w b O,fun w=>PBlk w b O'⟩:StoreSpec).blk]? = w.heap[(⟨i,b,fun w=>PBlk w b O,fun w=>PBlk w b O'⟩:StoreSpec).blk]? →
  ((⟨i,b,fun w=>PBlk w b O,fun w=>PBlk w b O'⟩:StoreSpec).pre w→(⟨i,b,fun w=>PBlk w b O,fun w=>PBlk w b O'⟩:StoreSpec).pre w')∧((⟨i,b,fun w=>PBlk w b O,fun w=>PBlk w b O'⟩:StoreSpec).post w→(⟨i,b,fun w=>PBlk w b O,fun w=>PBlk w b O'⟩:StoreSpec).post w'):=by
 have key:∀ (w w':World) (L:List Rat),ExtS [b] w w'→w'.heap[b]? = w.heap[b]?→PBlk w b L→PBlk w' b L:=fun w w' L hx he h=>by
  obtain ⟨cs,h1,h2,h3⟩:=h;exact ⟨cs,by show w'.heap[b]? = _;rw [he];exact h1,h2,fun i hi=>(h3 i hi).extS hx (noW1 h1 (by decide))⟩
 exact ⟨hB.lt,hB,fun w w' _ hx he=>⟨key w w' O hx he,key w w' O' hx he⟩⟩
section laws
variable {K:Value→World→Prop} {d:Option Tmp}
theorem zDF (hx:σ x = .pointer (some ⟨b,o,none⟩)) (ho:o=3*k) (hB:PBlk w b l) (hk:k<l.length) (hc:∀ v,IsNum w v (l.getD k 0)→K v w):Runs prog r ⟨d,.load 37 x,ty,pos,af,g⟩ σ w K:=by
 subst ho;obtain ⟨cs,h1,h2,h3⟩:=hB;exact zAo hx h1 (by omega) (h3 k hk) hc
theorem zBb {i:Operand} {k:IntKind} (hx:σ x = .slice (some ⟨b,0,none⟩) len cap) (hi:σ i = .int k (ix:Int)) (h1:ix<len) (hk:K (.pointer (some ⟨b,3*ix,none⟩)) w):Runs prog r ⟨d,.indexAddr 25 x i,ty,pos,af,g⟩ σ w K:=by
 refine zG zAB hx hi (by omega) (by omega) ?_;rw [show 0+((ix:Nat):Int).toNat*3=3*ix from by omega];exact hk
end laws
def AccP (sz:Nat) (w:World) (v:Value) (A:List Rat):Prop :=
 ∃ p c,v = .slice p A.length c∧A.length≤c∧((A=[]∧p=none∧c=0)∨∃ b cs,p=some ⟨b,0,none⟩∧sz≤b∧Blk w b 37 cs∧cs.length=3*c∧∀ i,i<A.length→IsNum w (.agg ((cs.drop (3*i)).take 3).toArray) (A.getD i 0))
theorem AccP.nil {sz:Nat}:AccP sz w (.slice none 0 0) []:=⟨none,0,rfl,Nat.le_refl _,.inl ⟨rfl,rfl,rfl⟩⟩
theorem AccP.ext {sz:Nat} (h:AccP sz w v A) (hx:Ext w w'):AccP sz w' v A:=by
 obtain ⟨p,c,h1,h2,h3⟩:=h;refine ⟨p,c,h1,h2,?_⟩;rcases h3 with h3 | ⟨b,cs,e1,e2,e3,e4,e5⟩
 · exact .inl h3
 · exact .inr ⟨b,cs,e1,e2,e3.ext hx,e4,fun i hi=>(e5 i hi).ext hx⟩
theorem AccP.own {sz:Nat} (h:AccP sz w v A) (hl:A.length≤4096):IsOwn sz w v A:=by
 obtain ⟨p,c,h1,h2,h3⟩:=h;rcases h3 with ⟨e1,e2,e3⟩ | ⟨b,cs,e1,e2,e3,e4,e5⟩
 · exact ⟨p,c,h1,h2,.inl e1,hl,fun hn=>absurd e1 hn⟩
 · exact ⟨p,c,h1,h2,.inr ⟨b,0,cs,e1,e3,by omega,fun i hi=>by rw [Nat.zero_add];exact e5 i hi⟩,hl,fun _=>⟨b,e1,e2⟩⟩
theorem AccP.upd {sz:Nat} (h:AccP sz w v A) (hu:Upd c w w') (hc:Blk w c 37 cs) (hne:∀ b k,v = .slice (some ⟨b,0,none⟩) A.length k→b≠c):AccP sz w' v A:=by
 obtain ⟨p,k,h1,h2,h3⟩:=h;refine ⟨p,k,h1,h2,?_⟩;rcases h3 with h3 | ⟨b,cs',e1,e2,e3,e4,e5⟩
 · exact .inl h3
 · refine .inr ⟨b,cs',e1,e2,e3.upd hu (hne b k (by rw [h1,e1])),e4,fun i hi=>(e5 i hi).upd hu hc (by decide)⟩
theorem AccP.new {sz:Nat} (h:AccP sz w v A) (hc:w.heap.size≤c):∀ b k,v = .slice (some ⟨b,0,none⟩) A.length k→b≠c:=fun b k e=>by
 obtain ⟨p,k',h1,h2,h3⟩:=h;rcases h3 with ⟨e1,e2,e3⟩ | ⟨b',cs',e1,e2,e3,e4,e5⟩
 · rw [h1,e2] at e;cases e
 · rw [h1,e1] at e;cases e;have:=e3.lt;omega
theorem zDJ (h:i<A.length):(A++[q]).getD i 0=A.getD i 0:=by
 simp [List.getElem?_append_left h]
theorem zDM:(A++[q]).getD A.length 0=q:=by simp
def AppX (sz:Nat) (w w':World):Prop:=Ext w w'∨∃ b cs,sz≤b∧Blk w b 37 cs∧Upd b w w'
theorem AppX.ext {sz:Nat} (h:AppX sz w w') (hs:w0.heap.size≤sz) (hE:Ext w0 w):Ext w0 w':=by
 rcases h with h | ⟨b,cs,h1,h2,h3⟩
 · exact hE.trans h
 · exact hE.upd h3 (by omega)
theorem AppX.num {sz:Nat} (h:AppX sz w w') (hc:c<sz) (hN:NumAt c q w):NumAt c q w':=by
 rcases h with h | ⟨b,cs,h1,h2,h3⟩
 · exact hN.ext h
 · exact hN.upd h3 h2 (by omega)
theorem zEh {K:Value→World→Prop} {d:Option Tmp} {sz:Nat} 
 (hx:AccP sz w (σ x) A) (hy:σ y = .slice (some ⟨b2,0,none⟩) 1 1) (hB2:Blk w b2 37 [c1,c2,c3]) (hq:IsNum w (.agg #[c1,c2,c3]) q) (hA:A.length<4096) (hsz:sz≤w.heap.size)
 (hk:∀ v w',AppX sz w w'→AccP sz w' v (A++[q])→K v w') :
 Runs prog r ⟨d,.call { callee := .builtin .append,args := #[x,y],argTypes := #[25,25] },ty,pos,af,g⟩ σ w K:=by
 obtain ⟨p,c,h1,h2,h3⟩:=hx;have hq0:=hq;have hcells:Cells w (some ⟨b2,0,none⟩) 37 [c1,c2,c3]:=Cells.blk hB2;have hok:[c1,c2,c3].all zAp=true:=by
  obtain ⟨n,dd,he,hn,hd⟩:=hq;obtain ⟨p1,ds1,k1,rfl,-⟩:=hn;obtain ⟨p2,ds2,k2,rfl,-⟩:=hd;cases he;rfl
 have fin:∀ (w':World) (b c':Nat) (cs':List Value),sz≤b→A.length+1≤c'→Blk w' b 37 cs'→cs'.length=3*c'→(∀ i,i<A.length→IsNum w' (.agg ((cs'.drop (3*i)).take 3).toArray) (A.getD i 0))→((cs'.drop (3*A.length)).take 3=[c1,c2,c3])→IsNum w' (.agg #[c1,c2,c3]) q →
  AccP sz w' (.slice (some ⟨b,0,none⟩) (A.length+1) c') (A++[q]):=fun w' b c' cs' g1 g2 g3 g4 g5 g6 g7=>by
  refine ⟨_,c',by simp,by simpa using g2,.inr ⟨b,cs',rfl,g1,g3,g4,fun i hi => ?_⟩⟩;by_cases hi':i<A.length
  · rw [zDJ hi'];exact g5 i hi'
  · have:i=A.length:=by simp at hi;omega
    subst this;rw [g6,zDM];exact g7
 by_cases hc:A.length+1≤c
 · -- within the capacity
   rcases h3 with ⟨e1,e2,e3⟩ | ⟨b,cs,e1,e2,e3,e4,e5⟩
   · omega
   · subst e1;refine zAg (n:=3) zAc zAc zDx h1 hy e3 hcells rfl hc (by omega) hok fun w' hU hN=>hk _ w' ?_ ?_
     · exact .inr ⟨b,cs,e2,e3,hU⟩
     · rw [Nat.zero_add,show A.length*3=3*A.length from by omega] at hN;refine fin w' b c _ e2 hc hN (by rw [zAh];exact e4) (fun i hi => ?_) ?_ (hq0.upd hU e3 (by decide))
       · rw [zAz (by omega),if_neg (by omega)];exact (e5 i hi).upd hU e3 (by decide)
       · rw [zAz (by omega),if_pos rfl]
 · have hnew:=zAS (A.length+1) c;have hold:∃ old,Cells w p 37 old∧old.length=A.length*3∧∀ i,i<A.length→IsNum w (.agg ((old.drop (3*i)).take 3).toArray) (A.getD i 0):=by
    rcases h3 with ⟨e1,e2,e3⟩ | ⟨b,cs,e1,e2,e3,e4,e5⟩
    · subst e1;exact ⟨[],.inl rfl,rfl,fun i hi=>by simp at hi⟩
    · refine ⟨cs.take (A.length*3),.inr ⟨b,0,cs,e1,e3,by simp⟩,by simp;omega,fun i hi => ?_⟩;have:=e5 i hi;rwa [show ((cs.take (A.length*3)).drop (3*i)).take 3=(cs.drop (3*i)).take 3 from by
       rw [List.drop_take,List.take_take,Nat.min_eq_left (by omega)]]
   obtain ⟨old,o1,o2,o3⟩:=hold;refine zAO zAc zAc zDx rfl (by decide) h1 hy o1 o2 hcells rfl (by omega) (by omega) fun w' rest c' g1 hE hB g2 _=>hk _ w' ?_ ?_
   · exact .inl hE
   · have hrl:rest.length=(c'-(A.length+1))*3:=by rw [g2];simp [Builtin.zeroCells,Value.cells]
     refine fin w' _ c' _ hsz g1 hB (by simp [o2,hrl];omega) (fun i hi => ?_) ?_ (hq0.ext hE)
     · rw [List.append_assoc,zCy (by omega)];exact (o3 i hi).ext hE
     · rw [List.append_assoc,List.drop_append_of_le_length (by omega),List.drop_of_length_le (by omega)];simp
variable {N n:Nat} {P:Program} {Q:Post} {T:TypeId} {args:Array Value} {ds:List Nat} {f:FuncId} {fn:Func} {ts:Array TypeId} {Φ:Value→World→Prop} {δ:List Deferred} {ρ:Env}
structure OthX (l:Nat) (w w':World):Prop where
 os:w'.os=w.os
 tape:w'.tape=w.tape
 output:w'.output=w.output
 size:w'.heap.size=w.heap.size
 block:∀ k,k≠l→w'.heap[k]? = w.heap[k]?
 no:∀ T cs,¬ Blk w l T cs
theorem OthX.upd {l:Nat} (h:OthX l w w'):Upd l w w':=⟨h.os,h.tape,h.output,h.size,h.block,fun T cs hb=>absurd hb (h.no T cs)⟩
theorem Blk.oth {l:Nat} (h:Blk w b T cs) (hx:OthX l w w'):Blk w' b T cs :=
 h.upd hx.upd fun e=>hx.no T cs (e ▸ h)
theorem Ext.oth {l:Nat} (h:Ext w0 w) (hx:OthX l w w') (hl:w0.heap.size≤l):Ext w0 w':=h.upd hx.upd hl
theorem zDt {l:Nat} {o:Obj} (o':Obj) (h:w.heap[l]? = some o) (ho:o.isCells=false):OthX l w (w.putObj l o') :=
 ⟨rfl,rfl,rfl,by simp [World.putObj],fun k hk=>World.putObj_heap_other hk,fun T cs hb=>by
  unfold Blk at hb;rw [h] at hb;cases hb;cases ho⟩
def BlkLe (w w':World):Prop:=∀ b T cs,Blk w b T cs→Blk w' b T cs
theorem OthX.le {l:Nat} (h:OthX l w w'):BlkLe w w':=fun _ _ _ hb=>hb.oth h
theorem Rd.le (h:Rd w p ds) (hx:BlkLe w w'):Rd w' p ds:=fun i hi=>by
 obtain ⟨b,o,cs,h1,h2,h3⟩:=h i hi;exact ⟨b,o,cs,h1,hx _ _ _ h2,h3⟩
theorem IsW.le (h:IsW w v n) (hx:BlkLe w w'):IsW w' v n:=by
 obtain ⟨p,ds,cap,h1,h2,h3,h4,h5⟩:=h;exact ⟨p,ds,cap,h1,h2,h3.le hx,h4,h5⟩
theorem IsNum.le (h:IsNum w v q) (hx:BlkLe w w'):IsNum w' v q:=by
 obtain ⟨n,d,hv,h1,h2⟩:=h;exact ⟨n,d,hv,h1.le hx,h2.le hx⟩
theorem PRd.le (h:PRd w p l) (hx:BlkLe w w'):PRd w' p l:=by
 rcases h with h | ⟨b,o,cs,h1,h2,h3,h4⟩
 · exact .inl h
 · exact .inr ⟨b,o,cs,h1,hx _ _ _ h2,h3,fun i hi=>(h4 i hi).le hx⟩
theorem NumAt.le (h:NumAt b q w) (hx:BlkLe w w'):NumAt b q w':=by
 obtain ⟨cs,h1,h2,h3⟩:=h;exact ⟨cs,hx _ _ _ h1,h2,h3.le hx⟩
theorem IsPoly.le (h:IsPoly w v l) (hx:BlkLe w w'):IsPoly w' v l:=by
 obtain ⟨p,c,h1,h2,h3,h4⟩:=h;exact ⟨p,c,h1,h2,h3.le hx,h4⟩
def NC (w w':World):Prop:=∀ (k:Nat) (o:Obj),w.heap[k]? = some o→o.isCells=false→w'.heap[k]? = some o
theorem NC.refl (w:World):NC w w:=fun _ _ h _=>h
theorem NC.trans {a b c:World} (h:NC a b) (k:NC b c):NC a c:=fun i o hi ho=>k i o (h i o hi ho) ho
theorem NC.ext (h:Ext w w'):NC w w':=fun _ _ hk _=>h.heap hk
theorem NC.upd (h:Upd b w w') (hb:Blk w b T cs):NC w w':=fun k o hk ho=>by
 by_cases e:k=b
 · subst e;unfold Blk at hb;rw [hb] at hk;cases hk;cases ho
 · rw [h.block k e];exact hk
theorem NC.extS (h:ExtS [b] w w') (hb:Blk w b T cs):NC w w':=fun k o hk ho=>by
 by_cases e:k=b
 · subst e;unfold Blk at hb;rw [hb] at hk;cases hk;cases ho
 · rw [h.block k (Array.getElem?_eq_some_iff.1 hk).1 (by simpa using e)];exact hk
def zIq (P:Program) (l:Nat) (args:Array Value) (w:World) (K:Value→World→Prop):Prop :=
 ∃ fn tmps assign body,(Instr.yield l args).run P w = .ok (.round l fn tmps assign body) w∧RoundIn (W none) 0 P l fn tmps assign body w (fun e w'=>∃ v,e = .returned v∧K v w')
theorem zIm {K:Value→World→Prop} {d:Option Tmp} {l:Nat} {args:Array Operand} 
 (hx:σ x = .func (.yield l) #[] #[]) (hy:zIq P l (args.toList.map σ).toArray w K) :
 Runs P none ⟨d,.call { callee := .value x,args:=args,argTypes:=ts },ty,pos,af,g⟩ σ w K:=by
 obtain ⟨fn,tmps,assign,body,h1,h2⟩:=hy;have ha:(args.toList.map σ).toArray=args.map σ:=amap _ _;rw [ha] at h1;unfold Runs;rw [zBl (fun _ e=>by cases e)];have:(execOp σ ⟨d,.call { callee := .value x,args:=args,argTypes:=ts },ty,pos,af,g⟩).run P w = .ok (.round l fn tmps assign body) w:=by
  simp only [execOp,resolve,hx,Deferred.ofValue];simp [invoke,h1]
 rw [this];exact h2
def exts (ρ:Env):List (Tmp×Value)→Env
 | []=>ρ
 | (p,v) :: l=>exts ((p,v) :: ρ) l
theorem zMt {N:Nat} {δ:List Deferred}:∀ (l:List (Tmp×Value)) (ρ:Env) (tmps:Array Value),Fr N { tmps:=tmps,defers:=δ } ρ→(∀ x∈l,x.1<N) →
 Fr N { tmps:=l.foldl (fun t (x:Tmp×Value)=>t.setIfInBounds x.1 x.2) tmps,defers:=δ } (exts ρ l)
 | [],ρ,tmps,h,_=>h
 | (p,v) :: l,ρ,tmps,h,hp=>by
  have h1:Fr N { tmps:=tmps.setIfInBounds p v,defers:=δ } ((p,v) :: ρ):=h.put (some p) v (fun d hd=>by cases hd;exact hp (p,v) (by simp));exact zMt l _ _ h1 fun x hx=>hp x (by simp [hx])
def mark (D:Nat):Deferred:={ target := .collected D,args := #[] }
theorem zKM {g:Operand} {ps:Array Tmp} {assign body:Code} {cap:Array Value}
 (hgd:(match g with | .tmp t=>(dom ρ).contains t | _=>true)=true) (hg:look ρ g = .func (.func f) #[] cap) (hf:zAs P f) (hps:ps.toList.all (fun p=>decide (p<N))=true)
 (I:Nat→World→Prop) (Kp:World→World→Prop) (n:Nat) (enc:Nat→Array Value→World→Prop)
 (hsz:∀ i args w,enc i args w→args.size=ps.size)
 (h0:∀ w1,Ext w w1→I 0 w1)
 (hIe:∀ i w1 w2,I i w1→Ext w1 w2→I i w2)
 (hIo:∀ i l w1 w2,w.heap.size≤l→I i w1→OthX l w1 w2→I i w2)
 (hseq:∀ (l:Nat) (J:Nat→World→Prop),(∀ i w1 w2,J i w1→Ext w1 w2→J i w2)→(∀ i w1,J i w1→I i w1) →
  (∀ i,i<n→∀ args w1,J i w1→enc i args w1→zIq P l args w1 (fun u w2=>u = .bool true∧J (i+1) w2∧Kp w1 w2)) →
  ∀ w1,Ext w w1→J 0 w1→CallK P f (#[.func (.yield l) #[] #[]]++cap) w1 (fun _ w2=>J n w2))
 (hround:∀ (l i:Nat) (args:Array Value) (w1:World),w.heap.size≤l→i<n→I i w1→enc i args w1 →
  WPE P (some l) N assign (fun e ρ' δ' w2=>e = .normal∧δ'=[]∧NC w1 w2 ∧
   ∀ w3,OthX l w2 w3→WPE P (some l) N body (fun e _ _ w4=>e = .normal∧NC w3 w4∧∀ w5,OthX l w4 w5→I (i+1) w5∧Kp w1 w5) [] ρ' w3) [] (exts ρ (ps.toList.zip args.toList)) w1)
 (hdone:∀ (D:Nat) (w2:World),w.heap.size≤D→I n w2→w2.heap[D]? = some (.deferred (some []))→Q .normal ρ (mark D :: δ) w2) :
 WPE P none N (.rangeFunc g ps assign body) Q δ ρ w:=fun a hfr hd=>by
 refine wpIn_rangeFunc (F:=W none) fun fn hfn => ?_;obtain ⟨rec,hrec⟩:∃ rec:LoopState→Loop,rec=fun st=>{ state:=st,pending:=none,fn,tmps:=a.tmps,params:=ps,assign,body,defers:=w.heap.size }:=⟨_,rfl⟩;obtain ⟨W1,hW1⟩:∃ W1,(w.alloc (.deferred (some []))).alloc (.loop (rec .ready))=W1:=⟨_,rfl⟩;have hL1:W1.heap[w.heap.size+1]? = some (.loop (rec .ready)):=by
  rw [← hW1];have:=World.alloc_heap_new (w.alloc (.deferred (some []))) (.loop (rec .ready));rwa [World.size_alloc] at this
 have hK1:W1.heap[w.heap.size]? = some (.deferred (some [])):=by
  rw [← hW1];exact (Below.heap_alloc _ _ _ (by simp)).trans (World.alloc_heap_new w _)
 have hE1:Ext w W1:=by
  rw [← hW1];exact (Ext.push (w:=w) (.deferred (some []))).trans (Ext.push (w:=w.alloc (.deferred (some []))) (.loop (rec .ready)))
 have hgv:a.eval g = .func (.func f) #[] cap:=by
  rw [hfr.eval g (fun t e=>by subst e;simpa using hgd)];exact hg
 refine ⟨w.heap.size+1,[mark w.heap.size],W1,{ target := .fn (.func f) cap,args := #[.func (.yield (w.heap.size+1)) #[] #[]] },W1,f,#[.func (.yield (w.heap.size+1)) #[] #[]]++cap,W1,?_,?_,?_,?_,?_,?_⟩
 · rw [← hW1,hrec];exact run_enterLoop_outer fn a.tmps ps assign body
 · simp only [resolve,hgv];simp [go_sem]
 · intro f' _;trivial
 · simp [invoke,go_sem,hf (#[.func (.yield (w.heap.size+1)) #[] #[]]++cap) W1]
 · intro h;cases h
 · refine zMw (h:=Calls.mono (hseq (w.heap.size+1) (fun i W=>I i W∧W.heap[w.heap.size+1]? = some (.loop (rec .ready))∧W.heap[w.heap.size]? = some (.deferred (some [])))
    (fun i w1 w2 h hE=>⟨hIe i w1 w2 h.1 hE,hE.heap h.2.1,hE.heap h.2.2⟩) (fun i w1 h=>h.1) ?_ W1 hE1 ⟨h0 W1 hE1,hL1,hK1⟩) ?_)
   · rintro i hi args w1 ⟨hI,hl,hk⟩ he;have hlt:w.heap.size+1<w1.heap.size:=(Array.getElem?_eq_some_iff.1 hl).1;have hy:=run_yield (P:=P) (args:=args) hl (by rw [hrec];exact hsz i args w1 he);rw [hrec] at hy;refine ⟨fn,_,assign,body,hy,roundIn_of_wpIn hfn ?_⟩;have hfr2:=zMt (N:=N) (δ:=[]) (ps.toList.zip args.toList) ρ a.tmps ⟨hfr.size,hfr.at_⟩ (fun x hx=>by
      have:=(List.of_mem_zip hx).1;simpa using List.all_eq_true.1 hps _ this)
     have hzip:(ps.zip args).foldl (fun t (x:Tmp×Value)=>t.setIfInBounds x.1 x.2) a.tmps=(ps.toList.zip args.toList).foldl (fun t (x:Tmp×Value)=>t.setIfInBounds x.1 x.2) a.tmps:=by
      rw [← Array.foldl_toList];simp
     rw [← hzip] at hfr2;refine wpIn_mono (hround (w.heap.size+1) i args w1 (by omega) hi hI he _ hfr2 rfl) ?_;rintro e a2 w2 ⟨ρ2,hf2,rfl,hd2,hkeep,hbody⟩;have hl2:=hkeep _ _ hl rfl;have hk2:=hkeep _ _ hk rfl;refine ⟨_,run_beginRound hl2 (by rw [hrec]),?_⟩;have hlt2:=(Array.getElem?_eq_some_iff.1 hl2).1;have ho2:=zDt (.loop { rec .ready with state := .busy }) hl2 rfl;have hl3:(w2.putObj (w.heap.size+1) (.loop { rec .ready with state := .busy })).heap[w.heap.size+1]? = some (.loop { rec .ready with state := .busy }):=World.putObj_heap_same hlt2;have hk3:(w2.putObj (w.heap.size+1) (.loop { rec .ready with state := .busy })).heap[w.heap.size]? = some (.deferred (some [])):=(World.putObj_heap_other (by omega)).trans hk2;refine wpIn_mono (hbody _ ho2 a2 hf2 hd2) ?_;rintro e a4 w4 ⟨ρ4,hf4,rfl,hkeep4,hfin⟩;have hl4:=hkeep4 _ _ hl3 rfl;have hk4:=hkeep4 _ _ hk3 rfl;have hlt4:=(Array.getElem?_eq_some_iff.1 hl4).1;have hr4:=run_endRound (P:=P) none hl4;have ho4:=zDt (.loop (rec .ready)) hl4 rfl;obtain ⟨g1,g2⟩:=hfin _ ho4;refine ⟨_,_,hr4,_,rfl,rfl,⟨?_,?_,?_⟩,?_⟩
     · rw [hrec] at g1 ⊢;exact g1
     · rw [hrec];exact World.putObj_heap_same hlt4
     · exact (World.putObj_heap_other (by omega)).trans hk4
     · rw [hrec] at g2 ⊢;exact g2
   · rintro e w2 ⟨v,rfl,hI,hl,hk⟩;have hlt:w.heap.size+1<w2.heap.size:=(Array.getElem?_eq_some_iff.1 hl).1;refine ⟨none,_,by have:=run_endLoop (P:=P) hl (by rw [hrec];simp);rw [hrec] at this;exact this,?_⟩;refine ⟨ρ,⟨hfr.size,hfr.at_⟩,?_⟩;show Q .normal ρ ([mark w.heap.size]++a.defers) _;rw [hd];refine hdone w.heap.size _ (Nat.le_refl _) ?_ ((World.putObj_heap_other (by omega)).trans hk);exact hIo n (w.heap.size+1) _ _ (by omega) hI (zDt _ hl rfl)
theorem zHS {c:Code} (N:Nat)
 (hf:P.funcs[f]? = some fn) (hb:fn.body=some c) (hN:fn.ntmps=N) (hargs:args.size≤N)
 (h:WPE P none N c (funQ fun ρ δ w'=>∃ D v,δ=[mark D]∧w'.heap[D]? = some (.deferred (some []))∧∀ w2,OthX D w' w2→Gives P fn N ρ w2 v∧Ext w w2∧Φ v w2) [] (args0 0 args.toList) w):Ret P f args w Φ:=by
 subst hN;refine callsW' (r:=none) (n:=0) (callsIn_of_wp_marks hf hb trivial ?_);refine wpIn_mono (h _ (zJh fn args hargs) rfl) ?_
 have key:∀ (a:Act) (w':World) (ρ:Env),Fr fn.ntmps a ρ→(∃ D v,a.defers=[mark D]∧w'.heap[D]? = some (.deferred (some []))∧∀ w2,OthX D w' w2→Gives P fn fn.ntmps ρ w2 v∧Ext w w2∧Φ v w2) →
  LeavesInM (W none) 0 P fn a.tmps (fun e w'=>∃ v,e = .returned v∧Ext w w'∧Φ v w') a.defers .returning w':=by
  rintro a w' ρ hfr ⟨D,v,hd,hD,hfin⟩;rw [hd];refine ⟨by simp,.inl ⟨D,_,rfl,run_takeDeferred hD,?_⟩⟩;obtain ⟨g1,g2,g3⟩:=hfin _ (zDt (.deferred none) hD rfl);exact ⟨v,g1 a hfr,v,rfl,g2,g3⟩
 rintro e a w' ⟨ρ,hfr,hq⟩;cases e with
 | normal=>exact key a w' ρ hfr hq
 | ret=>exact key a w' ρ hfr hq
 | _=>exact hq.elim
end Go.Proofs.YtjiendlfobjanaaGreatDoor
namespace Go.Proofs.YtjiendlfobjanaaGreatDoor
open Go Go.RowKit Go.Proofs Tryz
set_option maxRecDepth 10000
set_option maxHeartbeats 2000000
attribute [local irreducible] Runs WPE CallK Ret
variable {u v:Value} {w:World}
theorem zJO {p q s:List Rat} (hp:IsPoly w u p) (hq:IsPoly w v q) (h:padd p q=some s):Ret prog 149 #[u,v] w (fun r w'=>IsOwn w.heap.size w' r s):=by
 obtain ⟨pp,pc,rfl,hpc,hpP,hpl⟩:=hp;obtain ⟨qp,qc,rfl,hqc,hqP,hql⟩:=hq;have E0:Ext w w:=Ext.refl w;refine J0 36 func149 rfl (rj fun K=>ag (rm [0,1] K ?_));refine zAu (fun ρ w'=>∃ (ap bp:Option Addr) (P Q:List Rat) (ac bc:Nat) (R:List Rat),Keep ρ [(0,.slice ap P.length ac),(1,.slice bp Q.length bc)]∧Ext w w'∧PRd w' ap P∧PRd w' bp Q∧P.length≤ac∧P.length≤4096∧Q.length≤P.length∧addAt Q 0 P=some R∧trim R=s) ?_ ?_
 · refine rJ fun K=>K1 (zI zAB rfl (mv (K1 (zI zAB rfl (K8 rfl (rm [0,1,12] K ?_))))));refine K0 rfl ?_ ?_<;>intro hc
   · have hl:p.length<q.length:=t_lt hc;clear hc;rw [padd,if_pos hl] at h;obtain ⟨R,hR,hRs⟩:=map_some h;exact rI fun K=>mv (ag (ag (rl K (zO ⟨rfl,qp,pp,q,p,qc,pc,R,(kp rfl),E0,hqP.ext E0,hpP.ext E0,hqc,hql,by omega,hR,hRs⟩))))
   · have hl:¬ p.length<q.length:=by have:=f_lt hc;omega
     clear hc;rw [padd,if_neg hl] at h;obtain ⟨R,hR,hRs⟩:=map_some h;exact zp (zO ⟨rfl,pp,qp,p,q,pc,qc,R,(kp rfl),E0,hpP.ext E0,hqP.ext E0,hpc,hpl,by omega,hR,hRs⟩)
 · clear E0 hpP hqP h;rintro ρ2 w ⟨ap,bp,P,Q,ac,bc,R,hk,hEm,hPP,hQP,hac,hPl,hQl,hR,hRs⟩;have E0:Ext w w:=Ext.refl w;refine wpe_k _ hk ?_;clear hk ρ2;refine rJ fun K=>K1 (j0 E0 hb68 (zFp (l:=P) ⟨ap,ac,rfl,hac,hPP,hPl⟩) fun v3_1 w1 E0 hr => ?_);obtain ⟨op,oc,rfl,hoc,hOP,_,hown⟩:=hr;refine ag (rm [0,1,5] K ?_);refine zA (rJ fun K=>K1 (zI zAB rfl (mv (rm [0,1,5,17,18,19] K ?_))));refine zF (zg (X:=Nat) (fun i ρ w'=>Keep ρ [(5,.slice op P.length oc),(17,.slice bp Q.length bc),(18,.int .i64 (Q.length:Nat)),(19,.int .i64 (i:Nat))]∧i≤Q.length∧Ext w w'∧∃ O,O.length=P.length∧PRd w' op O∧addAt (Q.drop i) i O=some R) (fun i=>Q.length-i) 0 ⟨(kp rfl),Nat.zero_le _,E0,P,rfl,hOP,hR⟩ ?_);clear E0 hOP hR;rintro i ρ1 w1 ⟨hk,hil,E0,O,hOl,hOr,hA⟩;refine wpe_k _ hk ?_;clear hk ρ1;refine rj fun K=>K8 rfl (rm [5,17,18,19,20] K ?_);refine zA ?_;refine K0 rfl ?_ ?_<;>intro hc
   · have hlt:i<Q.length:=t_lt hc;clear hc;have hq1:=hQP.ext E0;rw [zDm hlt] at hA;obtain ⟨s1,hs1,hA⟩:=bind_some hA;obtain ⟨hr1,rfl⟩:=zEr hs1;obtain ⟨ob,rfl,hob⟩:=hown (fun e=>by rw [e] at hQl;simp only [List.length_nil] at hQl;omega);have hOB:=hOr.blk (fun e=>by rw [e] at hOl;simp only [List.length_nil] at hOl;omega);clear hOr;refine sk (zA (zF (rJ fun K=>K1 (runs_pindex (l:=Q) hq1 rfl rfl hlt (K1 (runs_pload hq1 hlt rfl fun v23 N23 => ?_))))));refine K1 (zV zAY fun bc2 w7 hb hE hBc hs => ?_);have hgc:w.heap.size≤bc2:=by rw [hb];exact E0.size
     have hne:bc2≠ob:=by have:=hOB.lt;omega
     replace E0:=E0.trans hE;replace N23:=N23.ext hE;replace hOB:=hOB.ext hE;clear hE hb hs;refine ag (K1 (zN rfl N23 (Cell3.of hBc rfl) fun _ w9 hU hNA => ?_));replace E0:=E0.upd hU hgc;replace hOB:=hOB.upd hU hBc (Ne.symm hne);clear hU hBc N23;refine rm [5,6,7,17,18,19] K ?_;have hnw:NoW [ob] _:=noWP hOB;refine zDc [⟨9,ob,fun w=>PBlk w ob (O),fun w=>PBlk w ob (O.set i (O.getD i 0+Q.getD i 0))⟩] [([(5,none)],none),([(6,none)],none),([(5,none)],none),([(6,none)],none),([(26,some 1),(27,some 0)],none),([(28,some 0)],none),([(7,none)],none),([(29,some 1),(30,some 0)],none),([(24,some 7),(25,some 6)],none),([(32,some 0),(31,some 1)],none)] mixed (by kernel_rfl) (by kernel_rfl) (by kernel_rfl) (by simp) (by kernel_rfl) (by kernel_rfl) (all1 (zHG hOB)) fun K hK=>dbv rfl (fun σ wx hE hp hk=>zC ⟨Ext.refl _,hk.1⟩) (dbv rfl (fun σ wx hE hp hk=>zC ⟨Ext.refl _,hk.1⟩) (dbv rfl (fun σ wx hE hp hk=>zC ⟨Ext.refl _,hk.1⟩) (dbv rfl (fun σ wx hE hp hk=>zC ⟨Ext.refl _,hk.1⟩) (dbv rfl (fun σ wx hE hp hk=>zBb hk.1 hk.2.1 (by omega) ⟨Ext.refl _,rfl⟩) ?_))));refine dbn (fun v w'=>IsNum w' v (O.getD i 0)) rfl (fun _ _ _ h1 hx h=>h.extS hx (hnw.ext h1)) (fun σ wx hE hp hk=>zDF hk.1 rfl (hp _ (List.mem_singleton.2 rfl) (by show _<(9:Nat);decide)) (by omega) fun v h=>⟨Ext.refl _,h⟩) ?_
     refine dbn (fun v w'=>IsNum w' v (Q.getD i 0)) rfl (fun _ _ _ h1 hx h=>h.extS hx (hnw.ext h1)) (fun σ wx hE hp hk=>za hk.1 (hNA.extS hE (nin1 hne) hnw) fun v h=>⟨Ext.refl _,h⟩) (dbn (fun v w'=>IsNum w' v (O.getD i 0+Q.getD i 0)) rfl (fun _ _ _ h1 hx h=>h.extS hx (hnw.ext h1)) (fun σ wx hE hp hk=>zH hb146 (CallK.of_ret (Add_ok hk.1 hk.2.1 hr1) fun v w2 hX hr=>⟨hX,hr⟩) rfl) (dbv rfl (fun σ wx hE hp hk=>zBb hk.1 hk.2.1 (by omega) ⟨Ext.refl _,rfl⟩) (dbs _ rfl (fun σ wx hE hpre hk=>zBC hk.1 rfl hk.2.1 hpre (by omega) fun v w2 hU hN=>⟨hU,hN⟩) (zKJ (hK _ fun wq hS hP => ?_)))));rintro _ rfl _ rfl _ rfl _ rfl _ rfl v29 N29 v30 N30 v31 N31 _ rfl _ _;refine zh ?_;obtain ⟨hN4,-⟩:=hP;replace E0:=E0.updS hS hob;clear hOB hS;have hOB:=hN4;clear hN4;refine zR (zM (K5 [5,17,18,19] ?_));exact K6 fun K=>K8 rfl (mv (rl K (zO (⟨rfl,i+1,⟨⟨rfl,rfl,rfl,rfl,rfl,rfl,rfl,congrArg (Value.int .i64) (zr (by omega)),trivial⟩,by omega,E0,_,by simp [hOl],hOB.rd,hA⟩,by omega⟩))))
   · have hge:=f_lt hc;obtain rfl:i=Q.length:=by omega
     clear hc;rw [List.drop_length] at hA;obtain rfl:O=R:=Option.some.inj hA;refine zY (zx (zl (zL (zM (rj fun K=>mv ?_)))));have hsz:=E0.size;refine K1 (j0 E0 hb34 (zCY (l:=O) ⟨op,oc,by rw [hOl];rfl,by omega,hOr,by omega⟩) fun v9 w9 E0 hr => ?_);rw [hRs] at hr;refine ag (rm [4,5,17,18,19] K ?_);refine zE (zQ ?_);exact ⟨rfl,_,zj rfl rfl,hEm.trans E0,hr.sz (by have:=hEm.size;omega)⟩
theorem info37':(prog.info? 37).map (fun i=>(i.zero,i.size))=some (some (.agg #[.bool false,.slice none 0 0,.slice none 0 0]),3):=by kernel_rfl
theorem zFK {p s:List Rat} {x:Rat} (hp:IsPoly w u p) (hx:IsNum w v x) (h:zFt p x=some s):Ret prog 56 #[u,v] w (fun r w'=>IsOwn w.heap.size w' r s):=by
 obtain ⟨pp,pc,rfl,hpc,hpP,hpl⟩:=hp;obtain ⟨L,hL,hLs⟩:=map_some h;have hx0:=hx;obtain ⟨xn,xd,rfl,hxn,hxd⟩:=hx0;have E0:Ext w w:=Ext.refl w;refine J0 23 func56 rfl (rj fun K => ?_);refine K1 (zt fun b1 w1 hb hE hB1 hs => ?_);have hgb1:w.heap.size≤b1:=by rw [hb];exact E0.size
 replace E0:=E0.trans hE;replace hx:=hx.ext hE;clear hE hs hb;refine ag (rm [0,3] K ?_);refine rj fun K=>ag (rm [0,3,5] K ?_);refine zA (rJ fun K=>K1 (zI zAB rfl (mv (rm [3,5,8,9,10] K ?_))));refine zF ?_;have hNX:NumAt b1 x _:=⟨_,hB1,rfl,hx⟩;refine zg (X:=Nat) (fun i ρ w'=>∃ v5 A,Keep ρ [(3,.pointer (some ⟨b1,0,none⟩)),(5,v5),(8,.slice pp p.length pc),(9,.int .i64 (p.length:Nat)),(10,.int .i64 (i:Nat))]∧i≤p.length∧Ext w w'∧AccP (b1+1) w' v5 A∧A.length=i∧(∃ B,mapO (fun c=>rmul c x) (p.drop i)=some B∧A++B=L)∧NumAt b1 x w') (fun i=>p.length-i) 0 ⟨_,[],(kp rfl),Nat.zero_le _,E0,AccP.nil,rfl,⟨L,hL,rfl⟩,hNX⟩ ?_;clear E0 hNX hB1 hL hx;rintro i ρ1 w1 ⟨v5,A,hk,hil,E0,hA,hAl,⟨B,hB,hAB⟩,hNX⟩;refine wpe_k _ hk ?_;clear hk ρ1;refine rj fun K=>K8 rfl (rm [3,5,8,9,10,11] K ?_);refine zA ?_;refine K0 rfl ?_ ?_<;>intro hc
 · have hlt:i<p.length:=t_lt hc;clear hc;have hq1:=hpP.ext E0;rw [zDm hlt] at hB;obtain ⟨m,hm,hB⟩:=bind_some hB;obtain ⟨hr1,rfl⟩:=zCq hm;obtain ⟨B2,hB2,hB⟩:=bind_some hB;cases hB;refine sk (zA (zF (rj fun K=>K1 (runs_pindex (l:=p) hq1 rfl rfl hlt (K1 (runs_pload hq1 hlt rfl fun v23 N23 => ?_))))));refine K1 (zV zAY fun bc2 w7 hb hE hBc hs => ?_);have hgc:w.heap.size≤bc2:=by rw [hb];exact E0.size
   have hne:b1≠bc2:=by have:=hNX.lt;omega
   have hna:=hA.new (c:=bc2) (by omega);replace E0:=E0.trans hE;replace N23:=N23.ext hE;replace hNX:=hNX.ext hE;replace hA:=hA.ext hE;clear hE hb hs;refine K1 (zN rfl N23 (Cell3.of hBc rfl) fun _ w9 hU hNA => ?_);replace E0:=E0.upd hU hgc;replace hNX:=hNX.upd hU hBc hne;replace hA:=hA.upd hU hBc hna;clear hU hBc N23;refine rm [3,5,7,8,9,10] K ?_;refine rI fun K=>K1 (za rfl hNA fun v15 N15=>K1 (za rfl hNX fun v16 N16=>K1 (zH hb101 (CallK.of_ret (zEi N15 N16 hr1) fun v17 w8 hE N17 => ?_) rfl)));replace E0:=E0.trans hE;replace hNX:=hNX.ext hE;replace hA:=hA.ext hE;clear hE N15 N16;obtain ⟨n17,d17,rfl,hn17,hd17⟩:=N17;have N17:IsNum _ (.agg #[.bool (decide (p.getD i 0*x<0)),n17,d17]) (p.getD i 0*x):=⟨_,_,rfl,hn17,hd17⟩;clear hn17 hd17;refine K1 (zi (cs:=[.bool (decide (p.getD i 0*x<0)),n17,d17]) zAc info37' (by decide) (by decide) (by kernel_rfl) fun bb w10 hb hE hBb hs => ?_);replace E0:=E0.trans hE;replace hNX:=hNX.ext hE;replace hA:=hA.ext hE;replace N17:=N17.ext hE;clear hE hb hs;refine K1 (zEh hA rfl hBb N17 (by omega) (by have:=hNX.lt;omega) fun v19 w11 hX hA2 => ?_);replace E0:=hX.ext (by omega) E0;replace hNX:=hX.num (by omega) hNX;clear hA;have hA:=hA2;clear hA2;refine ag (rl K (zR (zM (K5 [3,5,8,9,10] ?_))));refine K6 fun K=>K8 rfl (mv (rl K (zO ?_)))
   exact ⟨rfl,i+1,⟨v19,A++[p.getD i 0*x],⟨rfl,rfl,rfl,rfl,rfl,rfl,rfl,rfl,rfl,congrArg (Value.int .i64) (zr (by omega)),trivial⟩,by omega,E0,hA,by simp [hAl],⟨B2,hB2,by rw [List.append_assoc];exact hAB⟩,hNX⟩,by omega⟩
 · have hge:=f_lt hc;obtain rfl:i=p.length:=by omega
   clear hc;rw [List.drop_length] at hB;cases hB;rw [List.append_nil] at hAB;subst hAB;refine zY (zx (zl (zL (zM (rj fun K=>mv ?_)))));have hsz:=E0.size;refine K1 (j0 E0 hb34 (zCY (hA.own (by omega)).poly) fun v9 w9 E0 hr => ?_);rw [hLs] at hr;refine ag (rm [3,4,8,9,10] K ?_);exact zE (en rfl E0 (hr.sz hsz))
variable {b n:Nat} {l:List Rat}
theorem cells3_len (v:Value) (n:Nat) (h:v.cells.toList.length=3):((List.replicate n v.cells.toList).flatten).length=3*n:=by
 simp [List.length_flatten,h];omega
theorem flat3 (a b c:Value):∀ (n i:Nat),i<n→(((List.replicate n [a,b,c]).flatten).drop (3*i)).take 3=[a,b,c]
 | 0,i,h=>by omega
 | n+1,0,_=>by simp [List.replicate_succ]
 | n+1,i+1,h=>by
  rw [List.replicate_succ,List.flatten_cons,show 3*(i+1)=3*i+1+1+1 from by omega];simp only [List.cons_append,List.nil_append,List.drop_succ_cons];exact flat3 a b c n i (by omega)
theorem PBlk.zeros (h:Blk w b 37 ((List.replicate n (Value.agg #[.bool false,.slice none 0 0,.slice none 0 0]).cells.toList).flatten)):PBlk w b (List.replicate n 0):=by
 refine ⟨_,h,?_,fun i hi => ?_⟩
 · rw [cells3_len _ _ rfl,List.length_replicate];exact Nat.le_refl _
 · rw [List.length_replicate] at hi;rw [show (Value.agg #[.bool false,.slice none 0 0,.slice none 0 0]).cells.toList=[Value.bool false,.slice none 0 0,.slice none 0 0] from rfl,flat3 _ _ _ n i hi,show (List.replicate n (0:Rat)).getD i 0=0 from by simp [List.getElem?_replicate,hi]];exact IsNum.zero
theorem zCF (l:List Rat):(trim l).length≤l.length:=by
 unfold trim;rw [List.length_reverse];have:=(List.dropWhile_suffix (fun x:Rat=>decide (x=0)) (l:=l.reverse)).length_le;simpa using this
theorem zHf {p q s:List Rat} (hp:IsPoly w u p) (hq:IsPoly w v q) (h:psub p q=some s):Ret prog 70 #[u,v] w (fun r w'=>IsOwn w.heap.size w' r s):=by
 obtain ⟨m,h1,h2⟩:=bind_some h;have E0:Ext w w:=Ext.refl w;refine J0 10 func70 rfl (rj fun K=>ag (rm [0,1] K ?_));refine rJ fun K=>mv (K1 (j2 E0 hp.ext hq.ext hb38 (Int_ok (by decide) (by decide)) fun v1_2 w1 E0 hp hq N7=>K1 (j1 E0 hp.ext hb56 (zFK hq N7 h1) fun v8 w8 E0 hp hS=>K1 (zH hb149 (CallK.of_ret (zJO hp hS.poly h2) fun v9 w9 hE hr => ?_) rfl))));have hsz:=E0.size;replace E0:=E0.trans hE;clear hE;refine ag (rm [4] K ?_);exact zE (en rfl E0 (hr.sz hsz))
theorem zKQ (hp:IsPoly w v l) (h0:l≠[]):Ret prog 259 #[v] w (fun r w'=>IsNum w' r (top l)):=by
 obtain ⟨p,c,rfl,hc,hP,hl⟩:=hp;have hl0:0<l.length:=List.length_pos_iff.2 h0;refine J0 9 func259 rfl (rj fun K => ?_);refine K1 (zV zAY fun b1 w1 hb hE hB1 hs => ?_);have hgb1:w.heap.size≤b1:=by rw [hb];exact E0.size
 replace E0:=E0.trans hE;replace hP:=hP.ext hE;clear hE hs hb;refine rm [0,2] K ?_;refine rJ fun K=>mv (K1 (zI zAB rfl (K1 (zAJ (b:=1) (l.length-1) rfl rfl (by omega) (by omega) (K1 (runs_pindex (l:=l) (ix:=l.length-1) hP rfl rfl (by omega) (K1 (runs_pload hP (i:=l.length-1) (by omega) rfl fun v8 N8=>K1 (zN rfl N8 (Cell3.of hB1 rfl) fun _ w9 hU hN => ?_)))))))));replace E0:=E0.upd hU hgb1;obtain ⟨cs,hB4,hl4,hN4⟩:=hN;refine rm [2] K ?_;exact zE (zQ ⟨rfl,_,zv rfl rfl rfl zy hB4 hl4,E0,hN4⟩)
theorem zJB {x y:Rat} (hx:IsNum w u x) (hy:IsNum w v y) (hr:rroom x y=true):Ret prog 311 #[u,v] w (fun r w'=>IsNum w' r (x/y)):=by
 have hx0:=hx;have hy0:=hy;obtain ⟨xn,xd,rfl,hxn,hxd⟩:=hx0;obtain ⟨yn,yd,rfl,hyn,hyd⟩:=hy0;refine J0 14 func311 rfl (rj fun K => ?_);refine K1 (zt fun b1 w1 hb hE hB1 hs => ?_);have hgb1:w.heap.size≤b1:=by rw [hb];exact E0.size
 replace E0:=E0.trans hE;replace hx:=hx.ext hE;replace hy:=hy.ext hE;clear hE hs hb;refine K1 (zt fun b2 w2 hb hE hB2 hs => ?_);have hgb2:w.heap.size≤b2:=by rw [hb];exact E0.size
 have ne_b1_b2:b1≠b2:=by have:=hB1.lt;omega
 replace E0:=E0.trans hE;replace hx:=hx.ext hE;replace hy:=hy.ext hE;replace hB1:=hB1.ext hE;clear hE hs hb;refine K1 (zV zAY fun b3 w3 hb hE hB3 hs => ?_);have hgb3:w.heap.size≤b3:=by rw [hb];exact E0.size
 have ne_b1_b3:b1≠b3:=by have:=hB1.lt;omega
 have ne_b2_b3:b2≠b3:=by have:=hB2.lt;omega
 replace E0:=E0.trans hE;replace hx:=hx.ext hE;replace hy:=hy.ext hE;replace hB1:=hB1.ext hE;replace hB2:=hB2.ext hE;clear hE hs hb;refine rm [2,3,4] K ?_;refine rj fun K=>K1 (zX zy rfl hB1 (Nat.le_of_ble_eq_true rfl) (K1 (zX zy rfl hB2 (Nat.le_of_ble_eq_true rfl) (K1 (j5 E0 hx.ext hy.ext hB1.ext hB2.ext hB3.ext hb37 (zMG hx hy hr) fun v1_2 w4 E0 hx hy hB1 hB2 hB3 hr => ?_)))));obtain ⟨q,rfl,hq⟩:=hr;refine mv (xt rfl (xt rfl ?_));refine K1 (zV zAY fun b5 w5 hb hE hB5 hs => ?_);have hgb5:w.heap.size≤b5:=by rw [hb];exact E0.size
 have ne_b1_b5:b1≠b5:=by have:=hB1.lt;omega
 have ne_b2_b5:b2≠b5:=by have:=hB2.lt;omega
 have ne_b3_b5:b3≠b5:=by have:=hB3.lt;omega
 replace E0:=E0.trans hE;replace hx:=hx.ext hE;replace hy:=hy.ext hE;replace hB1:=hB1.ext hE;replace hB2:=hB2.ext hE;replace hB3:=hB3.ext hE;replace hq:=hq.ext hE;clear hE hs hb;refine K1 (zN rfl hq (Cell3.of hB5 rfl) fun _ w9 hU hN5 => ?_);replace E0:=E0.upd hU hgb5;replace hB3:=hB3.upd hU ne_b3_b5;refine ag (rm [4,5] K ?_);refine rj fun K=>K1 (za rfl hN5 fun v13 hq2=>K1 (zN rfl hq2 (Cell3.of hB3 rfl) fun _ w9 hU hN => ?_));replace E0:=E0.upd hU hgb3;obtain ⟨cs,hB4,hl4,hN4⟩:=hN;refine rm [4] K ?_;exact zE (zQ ⟨rfl,_,zv rfl rfl rfl zy hB4 hl4,E0,hN4⟩)
theorem zGs {p m:List Rat} (hp:IsPoly w v p) (h:monic p=some m):Ret prog 253 #[v] w (fun r w'=>IsOwn w.heap.size w' r m):=by
 have E0:Ext w w:=Ext.refl w;refine J0 14 func253 rfl (rj fun K=>ag (rm [0] K ?_));refine rJ fun K=>K1 (zH hb34 (CallK.of_ret (zCY hp) fun v4 w4 hE hT => ?_) rfl);have hsz:=E0.size;replace E0:=E0.trans hE;clear hE;obtain ⟨tp,tc,rfl,htc,hTP,htl,_⟩:=hT;refine ag (rm [0] K ?_);refine zA (rJ fun K=>K1 (zI zAB rfl (K8 rfl (rm [0,7] K ?_))));refine K0 rfl ?_ ?_<;>intro hc
 · have h0:trim p=[]:=List.eq_nil_of_length_eq_zero (by have:=eq_of_beq hc;omega);clear hc;rw [monic,if_pos h0] at h;cases h;refine rj fun K=>ag (rm [2] K ?_);exact zE (zU (en rfl E0 IsOwn.nil))
 · have h0:trim p≠[]:=fun e=>by rw [e] at hc;cases hc
   clear hc;rw [monic,if_neg h0] at h;obtain ⟨c,hd,hs⟩:=bind_some h;obtain ⟨hr1,rfl⟩:=zDz hd;have hT:IsPoly _ (.slice tp (trim p).length tc) (trim p):=⟨tp,tc,rfl,htc,hTP,htl⟩;refine sk (rJ fun K=>K1 (j1 E0 hT.ext hb38 (Int_ok (n:=1) (by decide) (by decide)) fun v9 w9 E0 hT N9=>mv (K1 (j2 E0 hT.ext N9.ext hb259 (zKQ hT h0) fun v11 w11 E0 hT N9 N11=>K1 (j1 E0 hT.ext hb311 (zJB N9 N11 hr1) fun v12 w12 E0 hT N12=>K1 (zH hb56 (CallK.of_ret (zFK hT N12 hs) fun v13 w13 hE hr => ?_) rfl))))));have hsz2:=E0.size;replace E0:=E0.trans hE;clear hE;refine ag (rm [2] K ?_);exact zE (en rfl E0 (hr.sz hsz2))
theorem zFW {p q s:List Rat} (hp:IsPoly w u p) (hq:IsPoly w v q) (h:pmul p q=some s):Ret prog 71 #[u,v] w (fun r w'=>IsOwn w.heap.size w' r s):=by
 obtain ⟨pp,pc,rfl,hpc,hpP,hpl⟩:=hp;obtain ⟨qp,qc,rfl,hqc,hqP,hql⟩:=hq;have hbig:p.length+q.length≤4096:=by
  rcases Nat.lt_or_ge 4096 (p.length+q.length) with hb | hb
  · rw [pmul,if_pos hb] at h;cases h
  · exact hb
 rw [pmul,if_neg (by omega)] at h;obtain ⟨R,hR,hRs⟩:=map_some h;have E0:Ext w w:=Ext.refl w;refine J0 52 func71 rfl (rj fun K=>ag (rm [0,1] K ?_));refine rJ fun K=>K1 (zI zAB rfl (mv (K1 (zI zAB rfl (K1 (zf (p.length+q.length) rfl rfl rfl (by omega) ?_))))));refine K1 (zAG zAc zDx rfl rfl rfl (by omega) (by omega) (by omega) fun ob w1 hb1 hE hB hs => ?_);have hob:w.heap.size≤ob:=Nat.le_of_eq hb1.symm;replace E0:=E0.trans hE;clear hE hs hb1;rw [show ((p.length+q.length:Nat):Int).toNat=p.length+q.length from by omega] at hB ⊢;have hOB:=PBlk.zeros hB;clear hB;refine ag (rm [0,1,5] K ?_);refine zA (rJ fun K=>K1 (zI zAB rfl (mv (rm [1,5,16,17,18] K ?_))));refine zF (zg (X:=Nat) (fun i ρ w'=>Keep ρ [(1,.slice qp q.length qc),(5,.slice (some ⟨ob,0,none⟩) (p.length+q.length) (p.length+q.length)),(16,.slice pp p.length pc),(17,.int .i64 (p.length:Nat)),(18,.int .i64 (i:Nat))]∧i≤p.length∧Ext w w'∧∃ O,O.length=(p.length+q.length)∧PBlk w' ob O∧mulL q (p.drop i) i O=some R) (fun i=>p.length-i) 0 ⟨(kp rfl),Nat.zero_le _,E0,_,by simp,hOB,hR⟩ ?_);clear E0 hOB hR;rintro i ρ1 w1 ⟨hk,hil,E0,O,hOl,hOB,hA⟩;refine wpe_k _ hk ?_;clear hk ρ1;refine rj fun K=>K8 rfl (rm [1,5,16,17,18,19] K ?_);refine zA ?_;refine K0 rfl ?_ ?_<;>intro hc
 · have hlt:i<p.length:=t_lt hc;clear hc;have hp1:=hpP.ext E0;rw [zDm hlt] at hA;refine sk (zA (zF (rJ fun K=>K1 (runs_pindex (l:=p) hp1 rfl rfl hlt (K1 (runs_pload hp1 hlt rfl fun v23 N23 => ?_))))));refine K1 (zV zAY fun bc2 w7 hb hE hBc hs => ?_);have hgc:w.heap.size≤bc2:=by rw [hb];exact E0.size
   have hne:bc2≠ob:=by have:=hOB.lt;omega
   replace E0:=E0.trans hE;replace N23:=N23.ext hE;replace hOB:=hOB.ext hE;clear hE hb hs;refine ag (K1 (zN rfl N23 (Cell3.of hBc rfl) fun _ w9 hU hNA => ?_));replace E0:=E0.upd hU hgc;replace hOB:=hOB.upd hU hBc (Ne.symm hne);clear hU hBc N23;refine rm [1,5,6,7,16,17,18] K ?_;refine zA (rj fun K=>K1 (za rfl hNA fun v15 N15=>K1 (zH hb19 (CallK.of_ret (Sign_ok N15) fun v24 w8 hE hr => ?_) rfl)));subst hr;replace E0:=E0.trans hE;replace hNA:=hNA.ext hE;replace hOB:=hOB.ext hE;clear hE N15;refine K8 rfl (rm [1,5,6,7,16,17,18,25] K ?_);refine K0 rfl ?_ ?_<;>intro hc
   · have hz:p.getD i 0=0:=zFG.1 (eq_of_beq hc);clear hc;rw [mulL,if_pos hz] at hA;obtain ⟨O',hO'⟩:∃ O',O'=O:=⟨O,rfl⟩;subst hO';have hOl':=hOl;have hOB':=hOB;have hA':=hA;exact zY (zx (zL (zM (K6 fun K=>K8 rfl (mv (rl K (zO (⟨rfl,i+1,⟨⟨rfl,rfl,rfl,rfl,rfl,rfl,rfl,rfl,rfl,congrArg (Value.int .i64) (zr (by omega)),trivial⟩,by omega,E0,O',hOl',hOB',hA'⟩,by omega⟩))))))))
   · have hz:p.getD i 0≠0:=fun e=>beq_eq_false_iff_ne.1 hc (zFG.2 e);clear hc;rw [mulL,if_neg hz] at hA;obtain ⟨O2,hO2,hA'⟩:=bind_some hA;refine sk (rJ fun K=>K1 (zI zAB rfl (mv (rm [1,5,6,7,16,17,18,26,27,28] K ?_))));refine zF (zg (X:=Nat) (fun j ρ w'=>Keep ρ [(1,.slice qp q.length qc),(5,.slice (some ⟨ob,0,none⟩) (p.length+q.length) (p.length+q.length)),(16,.slice pp p.length pc),(17,.int .i64 (p.length:Nat)),(18,.int .i64 (i:Nat)),(6,.int .i64 (i:Nat)),(7,.pointer (some ⟨bc2,0,none⟩)),(26,.slice qp q.length qc),(27,.int .i64 (q.length:Nat)),(28,.int .i64 (j:Nat))]∧j≤q.length∧Ext w w'∧NumAt bc2 (p.getD i 0) w'∧∃ O',O'.length=(p.length+q.length)∧PBlk w' ob O'∧zLQ (p.getD i 0) (q.drop j) (i+j) O'=some O2) (fun j=>q.length-j) 0 ⟨(kp rfl),Nat.zero_le _,E0,hNA,O,hOl,hOB,hO2⟩ ?_);clear E0 hOB hO2 hNA hOl hA;rintro j ρ3 w3 ⟨hk,hjl,E0,hNA,O',hOl',hOB',hA2⟩;refine wpe_k _ hk ?_;clear hk ρ3;refine rj fun K=>K8 rfl (rm [1,5,6,7,16,17,18,26,27,28,29] K ?_);refine zA ?_;refine K0 rfl ?_ ?_<;>intro hc
     · have hjt:j<q.length:=t_lt hc;clear hc;have hq1:=hqP.ext E0;rw [zDm hjt] at hA2;unfold zLQ at hA2;obtain ⟨m,hm,hA2⟩:=bind_some hA2;obtain ⟨s1,hs1,hA2⟩:=bind_some hA2;obtain ⟨hr1,rfl⟩:=zCq hm;obtain ⟨hr2,rfl⟩:=zEr hs1;have hOB:=hOB';clear hOB';refine sk (zA (zF (rJ fun K=>K1 (runs_pindex (l:=q) hq1 rfl rfl hjt (K1 (runs_pload hq1 hjt rfl fun v33 N33 => ?_))))));refine K1 (zV zAY fun bc3 w7 hb hE hBc hs => ?_);have hgc3:w.heap.size≤bc3:=by rw [hb];exact E0.size
       have hne3:bc3≠ob:=by have:=hOB.lt;omega
       have hne4:bc2≠bc3:=by have:=hNA.lt;omega
       replace E0:=E0.trans hE;replace N33:=N33.ext hE;replace hOB:=hOB.ext hE;replace hNA:=hNA.ext hE;clear hE hb hs;refine ag (K1 (zN rfl N33 (Cell3.of hBc rfl) fun _ w9 hU hNB => ?_));replace E0:=E0.upd hU hgc3;replace hOB:=hOB.upd hU hBc (Ne.symm hne3);replace hNA:=hNA.upd hU hBc hne4;clear hU hBc N33;refine rm [1,5,6,7,8,9,16,17,18,26,27,28] K ?_;have hnw:NoW [ob] _:=noWP hOB
       refine zDc [⟨15,ob,fun w=>PBlk w ob (O'),fun w=>PBlk w ob (O'.set (i+j) (O'.getD (i+j) 0+p.getD i 0*q.getD j 0))⟩] [([(5,none)],none),([(6,none)],none),([(8,none)],none),([(34,some 1),(35,some 0)],none),([(5,none)],none),([(6,none)],none),([(8,none)],none),([(38,some 1),(39,some 0)],none),([(37,some 3),(40,some 0)],none),([(41,some 0)],none),([(7,none)],none),([(9,none)],none),([(43,some 1),(44,some 0)],none),([(42,some 3),(45,some 0)],none),([(33,some 13),(36,some 10)],none),([(47,some 0),(46,some 1)],none)] mixed (by kernel_rfl) (by kernel_rfl) (by kernel_rfl) (by simp) (by kernel_rfl) (by kernel_rfl) (all1 (zHG hOB)) fun K hK=>dbv rfl (fun σ wx hE hp hk=>zC ⟨Ext.refl _,hk.1⟩) (dbv rfl (fun σ wx hE hp hk=>zC ⟨Ext.refl _,hk.1⟩) (dbv rfl (fun σ wx hE hp hk=>zC ⟨Ext.refl _,hk.1⟩) (dbv rfl (fun σ wx hE hp hk=>zf (i+j) hk.1 hk.2.1 rfl (by omega) ⟨Ext.refl _,rfl⟩) (dbv rfl (fun σ wx hE hp hk=>zC ⟨Ext.refl _,hk.1⟩) (dbv rfl (fun σ wx hE hp hk=>zC ⟨Ext.refl _,hk.1⟩) (dbv rfl (fun σ wx hE hp hk=>zC ⟨Ext.refl _,hk.1⟩) (dbv rfl (fun σ wx hE hp hk=>zf (i+j) hk.1 hk.2.1 rfl (by omega) ⟨Ext.refl _,rfl⟩) (dbv rfl (fun σ wx hE hp hk=>zBb hk.1 hk.2.1 (by omega) ⟨Ext.refl _,rfl⟩) ?_))))))))
       refine dbn (fun v w'=>IsNum w' v (O'.getD (i+j) 0)) rfl (fun _ _ _ h1 hx h=>h.extS hx (hnw.ext h1)) (fun σ wx hE hp hk=>zDF hk.1 rfl (hp _ (List.mem_singleton.2 rfl) (by show _<(15:Nat);decide)) (by omega) fun v h=>⟨Ext.refl _,h⟩) ?_;refine dbn (fun v w'=>IsNum w' v (p.getD i 0)) rfl (fun _ _ _ h1 hx h=>h.extS hx (hnw.ext h1)) (fun σ wx hE hp hk=>za hk.1 (hNA.extS hE (nin1 hne) hnw) fun v h=>⟨Ext.refl _,h⟩) (dbn (fun v w'=>IsNum w' v (q.getD j 0)) rfl (fun _ _ _ h1 hx h=>h.extS hx (hnw.ext h1)) (fun σ wx hE hp hk=>za hk.1 (hNB.extS hE (nin1 hne3) hnw) fun v h=>⟨Ext.refl _,h⟩) (dbn (fun v w'=>IsNum w' v (p.getD i 0*q.getD j 0)) rfl (fun _ _ _ h1 hx h=>h.extS hx (hnw.ext h1)) (fun σ wx hE hp hk=>zH hb101 (CallK.of_ret (zEi hk.1 hk.2.1 hr1) fun v w2 hX hr=>⟨hX,hr⟩) rfl) (dbn (fun v w'=>IsNum w' v (O'.getD (i+j) 0+p.getD i 0*q.getD j 0)) rfl (fun _ _ _ h1 hx h=>h.extS hx (hnw.ext h1)) (fun σ wx hE hp hk=>zH hb146 (CallK.of_ret (Add_ok hk.1 hk.2.1 hr2) fun v w2 hX hr=>⟨hX,hr⟩) rfl) (dbv rfl (fun σ wx hE hp hk=>zBb hk.1 hk.2.1 (by omega) ⟨Ext.refl _,rfl⟩) (dbs _ rfl (fun σ wx hE hpre hk=>zBC hk.1 rfl hk.2.1 hpre (by omega) fun v w2 hU hN=>⟨hU,hN⟩) (zKJ (hK _ fun wq hS hP => ?_)))))));rintro _ rfl _ rfl _ rfl _ rfl _ rfl _ rfl _ rfl _ rfl _ rfl v42 N42 v43 N43 v44 N44 v45 N45 v46 N46 _ rfl _ _;refine zh ?_;obtain ⟨hN4,-⟩:=hP
       replace E0:=E0.updS hS hob;replace hNA:=hNA.extS hS (nin1 hne) hnw;clear hOB hS;have hOB:=hN4;clear hN4;refine zR (zM (K5 [1,5,6,7,16,17,18,26,27,28] ?_));refine K6 fun K=>K8 rfl (mv (rl K (zO ?_)));exact ⟨rfl,j+1,⟨⟨rfl,rfl,rfl,rfl,rfl,rfl,rfl,rfl,rfl,rfl,rfl,rfl,rfl,rfl,rfl,rfl,rfl,rfl,rfl,congrArg (Value.int .i64) (zr (by omega)),trivial⟩,by omega,E0,hNA,_,by simp [hOl'],hOB,by rw [← Nat.add_assoc];exact hA2⟩,by omega⟩
     · have hge:=f_lt hc;obtain rfl:j=q.length:=by omega
       clear hc;rw [List.drop_length] at hA2;obtain rfl:O'=O2:=Option.some.inj hA2;exact zY (zx (zl (zL (zR (zM (K6 fun K=>K8 rfl (mv (rl K (zO (⟨rfl,i+1,⟨⟨rfl,rfl,rfl,rfl,rfl,rfl,rfl,rfl,rfl,congrArg (Value.int .i64) (zr (by omega)),trivial⟩,by omega,E0,O',hOl',hOB',hA'⟩,by omega⟩))))))))))
 · have hge:=f_lt hc;obtain rfl:i=p.length:=by omega
   clear hc;rw [List.drop_length] at hA;obtain rfl:O=R:=Option.some.inj hA;refine zY (zx (zl (zL (zM (rj fun K=>mv ?_)))));have hsz:=E0.size;refine K1 (j0 E0 hb34 (zCY (l:=O) ⟨some ⟨ob,0,none⟩,p.length+q.length,by rw [hOl];rfl,by omega,hOB.rd,by omega⟩) fun v9 w9 E0 hr => ?_);rw [hRs] at hr;refine ag (rm [1,4,5,16,17,18] K ?_);exact zE (en rfl E0 (hr.sz hsz))
variable {w':World}
theorem PBlk.extS {S:List Nat} (h:PBlk w b l) (hx:ExtS S w w') (hb:b ∉ S) (hS:NoW S w):PBlk w' b l:=by
 obtain ⟨cs,h1,h2,h3⟩:=h;exact ⟨cs,h1.extS hx hb,h2,fun i hi=>(h3 i hi).extS hx hS⟩
theorem zCl {p q:List Rat} {qq rr:List Rat} (hp:IsPoly w u p) (hq:IsPoly w v q) (h:pdiv p q=some (qq,rr)):Ret prog 254 #[u,v] w (fun r w'=>∃ a b,r = .tuple #[a,b]∧IsOwn w.heap.size w' a qq∧IsOwn w.heap.size w' b rr):=by
 have hq0:trim q≠[]:=fun e=>by rw [pdiv,if_pos e] at h;cases h
 rw [pdiv,if_neg hq0] at h;have E0:Ext w w:=Ext.refl w;refine J0 69 func254 rfl (rj fun K=>ag (ag (rm [0,1,4,5] K ?_)));refine rJ fun K=>K1 (zH hb34 (CallK.of_ret (zCY hp) fun v11 w2 hE hT1 => ?_) rfl);have hsz1:=E0.size;replace E0:=E0.trans hE;replace hq:=hq.ext hE;clear hE;refine mv ?_;have hsz2:=E0.size;have hlt1:=hT1.poly;refine K1 (zH hb34 (CallK.of_ret (zCY hq) fun v13 w3 hE hT2 => ?_) rfl);obtain ⟨rp,rc,rfl,hrc,hrP,hrl,hrb⟩:=hT1;obtain ⟨qp,qc,rfl,hqc,hqP,hql,hqb⟩:=hT2;obtain ⟨qb,rfl,hqb2⟩:=hqb hq0;have hqr:trim p≠[]→∃ rb,rp=some ⟨rb,0,none⟩∧w.heap.size≤rb∧rb≠qb:=fun h0=>by
  obtain ⟨rb,e1,e2⟩:=hrb h0;obtain ⟨a,a1,a2⟩:=hrP.lt h0;rw [e1] at a1;cases a1;exact ⟨rb,e1,Nat.le_trans hsz1 e2,by simp only at a2;omega⟩
 replace E0:=E0.trans hE;replace hrP:=hrP.ext hE;clear hE hlt1 hrb hq;refine ag (ag (rm [1,4,5] K ?_));refine rJ fun K=>K1 (zI zAB rfl (mv (K1 (zI zAB rfl (K1 (zJ (v := .int .i64 (((trim p).length:Int)-((trim q).length:Int))) rfl rfl (congrArg (fun z=>some (Value.int .i64 z)) (zm (by omega) (by omega))) (K1 (zJ (v := .int .i64 (((trim p).length:Int)-((trim q).length:Int)+1)) rfl rfl (congrArg (fun z=>some (Value.int .i64 z)) (zm (by omega) (by omega))) (K1 (zDn rfl rfl ?_))))))))));rw [show (if ((trim p).length:Int)-((trim q).length:Int)+1<(0:Int) then (0:Int) else ((trim p).length:Int)-((trim q).length:Int)+1)=((((trim p).length+1-(trim q).length):Nat):Int) from by split<;>omega];refine K1 (zAG zAc zDx rfl rfl rfl (by omega) (by omega) (by omega) fun zb w5 hb1 hE hB hs => ?_);have hzb:w.heap.size≤zb:=by rw [hb1];exact E0.size
 have hqz:qb≠zb:=by obtain ⟨a,a1,a2⟩:=hqP.lt hq0;cases a1;simp only at a2;omega
 have hrz:trim p≠[]→∃ rb,rp=some ⟨rb,0,none⟩∧w.heap.size≤rb∧rb≠qb∧rb≠zb:=fun h0=>by
  obtain ⟨rb,e1,e2,e3⟩:=hqr h0;obtain ⟨a,a1,a2⟩:=hrP.lt h0;rw [e1] at a1;cases a1;exact ⟨rb,e1,e2,e3,by simp only at a2;omega⟩
 replace E0:=E0.trans hE;replace hqP:=hqP.ext hE;replace hrP:=hrP.ext hE;clear hE hs hb1 hqr;rw [show ((((trim p).length+1-(trim q).length):Nat):Int).toNat=((trim p).length+1-(trim q).length) from by omega] at hB ⊢;have hZB:=PBlk.zeros hB;clear hB;refine ag (rm [1,4,5] K ?_);refine zA (zF (zg (X:=Nat) (fun f ρ w'=>∃ rp rc rest quo,Keep ρ [(1,.slice (some ⟨qb,0,none⟩) (trim q).length qc),(4,.slice (some ⟨zb,0,none⟩) ((trim p).length+1-(trim q).length) ((trim p).length+1-(trim q).length)),(5,.slice rp rest.length rc)]∧Ext w w'∧PRd w' (some ⟨qb,0,none⟩) (trim q)∧quo.length=((trim p).length+1-(trim q).length)∧PBlk w' zb quo∧PRd w' rp rest∧rest.length≤rc∧rest.length≤(trim p).length∧(rest≠[]→∃ rb,rp=some ⟨rb,0,none⟩∧w.heap.size≤rb∧rb≠qb∧rb≠zb)∧divL (trim q) f rest quo=some (qq,rr)) (fun f=>f) ((trim p).length+1) ⟨rp,rc,trim p,_,(kp rfl),E0,hqP,by simp,hZB,hrP,hrc,Nat.le_refl _,hrz,h⟩ ?_));clear E0 hqP hZB hrP hrc hrz h rp rc;rintro f ρ1 w1 ⟨rp,rc,rest,quo,hk,E0,hqP,hzl,hZB,hrP,hrc,hrl1,hrz,hA⟩;refine wpe_k _ hk ?_;clear hk ρ1;refine zA (zA ?_);rcases f with _ | f
 · cases hA
 unfold divL at hA;refine rI fun K=>K1 (zI zAB rfl (mv (K1 (zI zAB rfl (K8 rfl (rs [1,4,5,26] K ?_))))));refine K0 rfl ?_ ?_<;>intro hc
 · have hge:¬ rest.length<(trim q).length:=by have:=of_decide_eq_true hc;omega
   clear hc;rw [if_neg hge] at hA;obtain ⟨c,hc1,hA⟩:=bind_some hA;obtain ⟨hr1,hc2⟩:=zDz hc1;obtain ⟨R,hR,hA⟩:=bind_some hA;have hq1:0<(trim q).length:=List.length_pos_iff.2 hq0;have hr0:rest≠[]:=fun e=>by rw [e] at hge;simp only [List.length_nil] at hge;omega
   obtain ⟨rb,rfl,hrb1,hrb2,hrb3⟩:=hrz hr0;have hRB:=hrP.blk hr0;clear hrP hrz;refine sk (zF (rJ fun K=>K1 (j3 E0 hqP.ext hZB.ext hRB.ext hb259 (zKQ (l:=rest) ⟨_,rc,rfl,hrc,hRB.rd,by omega⟩ hr0) fun v28 w6 E0 hqP hZB hRB N28=>mv (K1 (j4 E0 hqP.ext hZB.ext hRB.ext N28.ext hb259 (zKQ (l:=trim q) ⟨_,qc,rfl,hqc,hqP,hql⟩ hq0) fun v30 w6 E0 hqP hZB hRB N28 N30=>K1 (zH hb311 (CallK.of_ret (zJB N28 N30 hr1) fun v31 w6 hE N31 => ?_) rfl))))));rw [← hc2] at N31;replace E0:=E0.trans hE;replace hqP:=hqP.ext hE;replace hZB:=hZB.ext hE;replace hRB:=hRB.ext hE;clear hE N28 N30;refine mv (K1 (zI zAB rfl (mv (K1 (zI zAB rfl (K1 (zAJ (rest.length-(trim q).length) rfl rfl (by omega) (by omega) ?_)))))));refine K1 (zV zAY fun cb w7 hb hE hBc hs => ?_);have hgc:w.heap.size≤cb:=by rw [hb];exact E0.size
   have hcr:cb≠rb:=by have:=hRB.lt;omega
   have hcz:cb≠zb:=by have:=hZB.lt;omega
   have hcq:qb≠cb:=by obtain ⟨a,a1,a2⟩:=hqP.lt hq0;cases a1;simp only at a2;omega
   replace E0:=E0.trans hE;replace hqP:=hqP.ext hE;replace hZB:=hZB.ext hE;replace hRB:=hRB.ext hE;replace N31:=N31.ext hE;clear hE hb hs;refine K1 (zN rfl N31 (Cell3.of hBc rfl) fun _ w9 hU hNA => ?_);replace E0:=E0.upd hU hgc;replace hqP:=hqP.upd hU hBc (fun a ha _=>by cases ha;exact hcq);replace hZB:=hZB.upd hU hBc (Ne.symm hcz);replace hRB:=hRB.upd hU hBc (Ne.symm hcr);clear hU hBc N31;refine ag (rm [1,4,5,6,7] K ?_);refine rJ fun K=>mv (K1 (za rfl hNA fun v39 N39=>K1 (zBb rfl rfl (by omega) (K1 (zBC (l:=quo) (k:=(rest.length-(trim q).length)) rfl rfl N39 hZB (by omega) fun _ w9 hU hZ2 => ?_)))));replace E0:=E0.upd hU hzb;obtain ⟨zcs,hzB,-⟩:=hZB;replace hqP:=hqP.upd hU hzB (fun a ha _=>by cases ha;exact hqz);replace hRB:=hRB.upd hU hzB hrb3;replace hNA:=hNA.upd hU hzB hcz;clear hU hzB zcs N39;have hZB:=hZ2;clear hZ2;refine rm [1,4,5,6,7] K ?_;refine zA (rJ fun K=>K1 (zI zAB rfl (mv (rm [1,4,5,6,7,41,42,43] K ?_))))
   refine zF (zg (X:=Nat) (fun j ρ w'=>Keep ρ [(1,.slice (some ⟨qb,0,none⟩) (trim q).length qc),(4,.slice (some ⟨zb,0,none⟩) ((trim p).length+1-(trim q).length) ((trim p).length+1-(trim q).length)),(5,.slice (some ⟨rb,0,none⟩) rest.length rc),(6,.pointer (some ⟨cb,0,none⟩)),(7,.int .i64 ((rest.length-(trim q).length:Nat):Nat)),(41,.slice (some ⟨qb,0,none⟩) (trim q).length qc),(42,.int .i64 ((trim q).length:Nat)),(43,.int .i64 (j:Nat))]∧j≤(trim q).length∧Ext w w'∧PRd w' (some ⟨qb,0,none⟩) (trim q)∧PBlk w' zb (quo.set (rest.length-(trim q).length) c)∧NumAt cb c w'∧∃ O,O.length=rest.length∧PBlk w' rb O∧zLp c ((trim q).drop j) ((rest.length-(trim q).length)+j) O=some R) (fun j=>(trim q).length-j) 0 ⟨(kp rfl),Nat.zero_le _,E0,hqP,hZB,hNA,rest,rfl,hRB,hR⟩ ?_);clear E0 hqP hZB hNA hRB hR;rintro j ρ3 w3 ⟨hk,hjl,E0,hqP,hZB,hNA,O,hOl,hOB,hA2⟩;refine wpe_k _ hk ?_;clear hk ρ3;refine rj fun K=>K8 rfl (rm [1,4,5,6,7,41,42,43,44] K ?_);refine zA ?_;refine K0 rfl ?_ ?_<;>intro hc
   · have hjt:j<(trim q).length:=t_lt hc;clear hc;rw [zDm hjt] at hA2;unfold zLp at hA2;obtain ⟨m,hm,hA2⟩:=bind_some hA2;obtain ⟨s1,hs1,hA2⟩:=bind_some hA2;obtain ⟨hr2,rfl⟩:=zCq hm;obtain ⟨hr3,rfl⟩:=zKY hs1;refine sk (zA (zF (rJ fun K=>K1 (runs_pindex (l:=trim q) hqP rfl rfl hjt (K1 (runs_pload hqP hjt rfl fun v33 N33 => ?_))))));refine K1 (zV zAY fun bc3 w7 hb hE hBc hs => ?_);have hgc3:w.heap.size≤bc3:=by rw [hb];exact E0.size
     have hd1:bc3≠rb:=by have:=hOB.lt;omega
     have hd2:cb≠bc3:=by have:=hNA.lt;omega
     have hd3:zb≠bc3:=by have:=hZB.lt;omega
     have hd4:qb≠bc3:=by obtain ⟨a,a1,a2⟩:=hqP.lt hq0;cases a1;simp only at a2;omega
     replace E0:=E0.trans hE;replace N33:=N33.ext hE;replace hOB:=hOB.ext hE;replace hNA:=hNA.ext hE;replace hZB:=hZB.ext hE;replace hqP:=hqP.ext hE;clear hE hb hs;refine ag (K1 (zN rfl N33 (Cell3.of hBc rfl) fun _ w9 hU hNB => ?_));replace E0:=E0.upd hU hgc3;replace hOB:=hOB.upd hU hBc (Ne.symm hd1);replace hNA:=hNA.upd hU hBc hd2;replace hZB:=hZB.upd hU hBc hd3;replace hqP:=hqP.upd hU hBc (fun a ha _=>by cases ha;exact hd4);clear hU hBc N33;refine rm [1,4,5,6,7,8,9,41,42,43] K ?_;have hnw:NoW [rb] _:=noWP hOB
     refine zDc [⟨15,rb,fun w=>PBlk w rb (O),fun w=>PBlk w rb (O.set ((rest.length-(trim q).length)+j) (O.getD ((rest.length-(trim q).length)+j) 0-c*(trim q).getD j 0))⟩] [([(5,none)],none),([(7,none)],none),([(8,none)],none),([(49,some 1),(50,some 0)],none),([(5,none)],none),([(7,none)],none),([(8,none)],none),([(53,some 1),(54,some 0)],none),([(52,some 3),(55,some 0)],none),([(56,some 0)],none),([(6,none)],none),([(9,none)],none),([(58,some 1),(59,some 0)],none),([(57,some 3),(60,some 0)],none),([(48,some 13),(51,some 10)],none),([(62,some 0),(61,some 1)],none)] mixed (by kernel_rfl) (by kernel_rfl) (by kernel_rfl) (by simp) (by kernel_rfl) (by kernel_rfl) (all1 (zHG hOB)) fun K hK=>dbv rfl (fun σ wx hE hp hk=>zC ⟨Ext.refl _,hk.1⟩) (dbv rfl (fun σ wx hE hp hk=>zC ⟨Ext.refl _,hk.1⟩) (dbv rfl (fun σ wx hE hp hk=>zC ⟨Ext.refl _,hk.1⟩) (dbv rfl (fun σ wx hE hp hk=>zf ((rest.length-(trim q).length)+j) hk.1 hk.2.1 rfl (by omega) ⟨Ext.refl _,rfl⟩) (dbv rfl (fun σ wx hE hp hk=>zC ⟨Ext.refl _,hk.1⟩) (dbv rfl (fun σ wx hE hp hk=>zC ⟨Ext.refl _,hk.1⟩) (dbv rfl (fun σ wx hE hp hk=>zC ⟨Ext.refl _,hk.1⟩) (dbv rfl (fun σ wx hE hp hk=>zf ((rest.length-(trim q).length)+j) hk.1 hk.2.1 rfl (by omega) ⟨Ext.refl _,rfl⟩) (dbv rfl (fun σ wx hE hp hk=>zBb hk.1 hk.2.1 (by omega) ⟨Ext.refl _,rfl⟩) ?_))))))))
     refine dbn (fun v w'=>IsNum w' v (O.getD ((rest.length-(trim q).length)+j) 0)) rfl (fun _ _ _ h1 hx h=>h.extS hx (hnw.ext h1)) (fun σ wx hE hp hk=>zDF hk.1 rfl (hp _ (List.mem_singleton.2 rfl) (by show _<(15:Nat);decide)) (by omega) fun v h=>⟨Ext.refl _,h⟩) ?_;refine dbn (fun v w'=>IsNum w' v c) rfl (fun _ _ _ h1 hx h=>h.extS hx (hnw.ext h1)) (fun σ wx hE hp hk=>za hk.1 (hNA.extS hE (nin1 hcr) hnw) fun v h=>⟨Ext.refl _,h⟩) (dbn (fun v w'=>IsNum w' v ((trim q).getD j 0)) rfl (fun _ _ _ h1 hx h=>h.extS hx (hnw.ext h1)) (fun σ wx hE hp hk=>za hk.1 (hNB.extS hE (nin1 hd1) hnw) fun v h=>⟨Ext.refl _,h⟩) (dbn (fun v w'=>IsNum w' v (c*(trim q).getD j 0)) rfl (fun _ _ _ h1 hx h=>h.extS hx (hnw.ext h1)) (fun σ wx hE hp hk=>zH hb101 (CallK.of_ret (zEi hk.1 hk.2.1 hr2) fun v w2 hX hr=>⟨hX,hr⟩) rfl) (dbn (fun v w'=>IsNum w' v (O.getD ((rest.length-(trim q).length)+j) 0-c*(trim q).getD j 0)) rfl (fun _ _ _ h1 hx h=>h.extS hx (hnw.ext h1)) (fun σ wx hE hp hk=>zH hb237 (CallK.of_ret (zNE hk.1 hk.2.1 hr3) fun v w2 hX hr=>⟨hX,hr⟩) rfl) (dbv rfl (fun σ wx hE hp hk=>zBb hk.1 hk.2.1 (by omega) ⟨Ext.refl _,rfl⟩) (dbs _ rfl (fun σ wx hE hpre hk=>zBC hk.1 rfl hk.2.1 hpre (by omega) fun v w2 hU hN=>⟨hU,hN⟩) (zKJ (hK _ fun wq hS hP => ?_)))))));rintro _ rfl _ rfl _ rfl _ rfl _ rfl _ rfl _ rfl _ rfl _ rfl v57 N57 v58 N58 v59 N59 v60 N60 v61 N61 _ rfl _ _
     refine zh ?_;obtain ⟨hN4,-⟩:=hP;replace E0:=E0.updS hS hrb1;replace hNA:=hNA.extS hS (nin1 hcr) hnw;replace hqP:=hqP.extS hS (fun a ha _=>by cases ha;exact nin1 (Ne.symm hrb2)) hnw;replace hZB:=hZB.extS hS (nin1 (Ne.symm hrb3)) hnw;clear hOB hS;have hOB:=hN4;clear hN4;refine zR (zM (K5 [1,4,5,6,7,41,42,43] ?_));refine K6 fun K=>K8 rfl (mv (rl K (zO ?_)));exact ⟨rfl,j+1,⟨⟨rfl,rfl,rfl,rfl,rfl,rfl,rfl,rfl,rfl,rfl,rfl,rfl,rfl,rfl,rfl,congrArg (Value.int .i64) (zr (by omega)),trivial⟩,by omega,E0,hqP,hZB,hNA,_,by simp [hOl],hOB,by rw [← Nat.add_assoc];exact hA2⟩,by omega⟩
   · have hgj:=f_lt hc;obtain rfl:j=(trim q).length:=by omega
     clear hc;rw [List.drop_length] at hA2;obtain rfl:O=R:=Option.some.inj hA2;refine zY (zx (zl (zL (zM (K6 fun K=>mv ?_)))));have hsz:=E0.size;have hbb:qb<_∧zb<_:=⟨by obtain ⟨a,a1,a2⟩:=hqP.lt hq0;cases a1;exact a2,hZB.lt⟩;refine K1 (zH hb34 (CallK.of_ret (zCY (l:=O) ⟨some ⟨rb,0,none⟩,rc,by rw [hOl];rfl,by omega,hOB.rd,by omega⟩) fun v9 w9 hE hr => ?_) rfl);obtain ⟨np,nc,rfl,hnc,hnP,hnl,hnb0⟩:=hr;have hnb:trim O≠[]→∃ b,np=some ⟨b,0,none⟩∧w.heap.size≤b∧b≠qb∧b≠zb:=fun h0=>by
      obtain ⟨b,e1,e2⟩:=hnb0 h0;exact ⟨b,e1,by omega,by omega,by omega⟩
     replace E0:=E0.trans hE;replace hqP:=hqP.ext hE;replace hZB:=hZB.ext hE;clear hE hnb0;exact ag (rl K (zR (zO (⟨rfl,f,⟨np,nc,trim O,quo.set (rest.length-(trim q).length) c,(kp rfl),E0,hqP,by simp [hzl],hZB,hnP,hnc,Nat.le_trans (zCF O) (by omega),hnb,hA⟩,by omega⟩))))
 · have hlt:rest.length<(trim q).length:=by have:=of_decide_eq_false hc;omega
   clear hc;rw [if_pos hlt] at hA;cases hA;refine zY (zx (zl (zL (zM (rj fun K=>mv ?_)))));have hsz:=E0.size;refine K1 (j1 E0 hrP.ext hb34 (zCY (l:=quo) ⟨some ⟨zb,0,none⟩,_,by rw [hzl];rfl,by omega,hZB.rd,by omega⟩) fun v9 w9 E0 hrP hr => ?_);refine mv (ag (ag (rm [1,4,5] K ?_)));refine zE (zQ ?_);exact ⟨rfl,_,zw rfl rfl rfl,E0,_,_,rfl,hr.sz hsz,rp,rc,rfl,hrc,hrP,by omega,fun h0=>let ⟨b,e1,e2,_⟩:=hrz h0;⟨b,e1,e2⟩⟩
theorem zEN {p q s:List Rat} (hp:IsPoly w u p) (hq:IsPoly w v q) (h:zGm p q=some s):Ret prog 170 #[u,v] w (fun r w'=>IsOwn w.heap.size w' r s):=by
 obtain ⟨⟨s',t⟩,h1,he⟩:=map_some h;simp only at he;subst he;refine J0 14 func170 rfl (rj fun K=>ag (rm [0,1] K ?_));refine rJ fun K=>mv (K1 (zH hb254 (CallK.of_ret (zCl hp hq h1) fun v10 w10 hE hr => ?_) rfl));obtain ⟨a,b,rfl,hr1,-⟩:=hr;replace E0:=E0.trans hE;clear hE;refine mv (xt rfl (xt rfl (ag (ag (rm [5] K ?_)))));refine rJ fun K=>ag (rm [4] K ?_);exact zE (en rfl E0 hr1)
theorem zEk {p q s:List Rat} (hp:IsPoly w u p) (hq:IsPoly w v q) (h:zII p q=some s):Ret prog 168 #[u,v] w (fun r w'=>IsOwn w.heap.size w' r s):=by
 obtain ⟨p1,h1,h⟩:=bind_some h;obtain ⟨q1,h2,h3⟩:=bind_some h;have E0:Ext w w:=Ext.refl w;refine J0 24 func168 rfl (rj fun K=>ag (rm [0,1] K ?_));refine rJ fun K=>K1 (zH hb253 (CallK.of_ret (zGs hp h1) fun v8 w2 hE hP1 => ?_) rfl);have hsz:=E0.size;replace E0:=E0.trans hE;replace hq:=hq.ext hE;clear hE;refine mv (K1 (zH hb253 (CallK.of_ret (zGs hq h2) fun v10 w3 hE hP2 => ?_) rfl));replace hP2:=hP2.sz E0.size;replace E0:=E0.trans hE;replace hP1:=hP1.ext hE;clear hE;refine ag (ag (rm [0,1] K ?_));refine zA (zF (zg (X:=Nat) (fun f ρ w'=>∃ v0 v1 P Q,Keep ρ [(0,v0),(1,v1)]∧Ext w w'∧IsOwn w.heap.size w' v0 P∧IsOwn w.heap.size w' v1 Q∧zJX f P Q=some s) (fun f=>f) (q1.length+1) ⟨_,_,p1,q1,(kp rfl),E0,hP1.sz hsz,hP2,h3⟩ ?_));clear E0 hP1 hP2 h3;rintro f ρ1 w1 ⟨v0,v1,P,Q,hk,E0,hP,hQ,hA⟩;have hQ0:=hQ;obtain ⟨qp,qc,rfl,-,-,-,-⟩:=hQ0;refine wpe_k _ hk ?_;clear hk ρ1;refine zA (zA ?_);rcases f with _ | f
 · cases hA
 unfold zJX at hA;refine rI fun K=>K1 (zI zAB rfl (K8 rfl (rs [0,1,13] K ?_)));refine K0 rfl ?_ ?_<;>intro hc
 · have h0:Q≠[]:=fun e=>by rw [e] at hc;cases hc
   clear hc;rw [if_neg h0] at hA;obtain ⟨⟨dq,dr⟩,hd,hA⟩:=bind_some hA;obtain ⟨m,hm,hA⟩:=bind_some hA;refine sk (zF (rJ fun K=>mv (K1 (zH hb254 (CallK.of_ret (zCl hP.poly hQ.poly hd) fun v17 w10 hE hr => ?_) rfl))));obtain ⟨a,b,rfl,-,hr1⟩:=hr;replace E0:=E0.trans hE;replace hQ:=hQ.ext hE;clear hE;refine mv (xt rfl (xt rfl (ag (ag (rm [1,6] K ?_)))));refine rI fun K=>mv (K1 (zH hb253 (CallK.of_ret (zGs hr1.poly hm) fun v22 w11 hE hM => ?_) rfl));have hsz3:=E0.size;replace E0:=E0.trans hE;replace hQ:=hQ.ext hE;clear hE;exact ag (ag (rl K (zR (zO (⟨rfl,f,⟨_,_,Q,m,(kp rfl),E0,hQ,hM.sz hsz3,hA⟩,by omega⟩)))))
 · have h0:Q=[]:=List.eq_nil_of_length_eq_zero (by have:=of_decide_eq_false hc;omega);clear hc;rw [if_pos h0] at hA;cases hA;refine zY (zx (zl (zL (zM (rJ fun K=>ag (rm [1,4] K ?_))))));exact zE (en rfl E0 hP)
variable {K':Value→World→Prop} {P:Program} {args:Array Value} {bx c i:Nat} {p:Option Addr} {q:Rat} {w0:World}
theorem zBK:Plain prog 25:=by unfold Plain;exact ⟨by kernel_rfl,by kernel_rfl⟩
theorem numStOkB {q':Rat} (hB:NumAt b q w0) :
 (⟨i,b,NumAt b q,NumAt b q'⟩:StoreSpec).blk<w0.heap.size∧(⟨i,b,NumAt b q,NumAt b q'⟩:StoreSpec).pre w0∧∀ w w',ExtS [b] w0 w→ExtS [b] w w'→w'.heap[(⟨i,b,NumAt b q,NumAt b q'⟩:StoreSpec).blk]? = w.heap[(⟨i,b,NumAt b q,NumAt b q'⟩:StoreSpec).blk]? →
  ((⟨i,b,NumAt b q,NumAt b q'⟩:StoreSpec).pre w→(⟨i,b,NumAt b q,NumAt b q'⟩:StoreSpec).pre w')∧((⟨i,b,NumAt b q,NumAt b q'⟩:StoreSpec).post w→(⟨i,b,NumAt b q,NumAt b q'⟩:StoreSpec).post w'):=by
 have key:∀ (w w':World) (z:Rat),ExtS [b] w w'→w'.heap[b]? = w.heap[b]?→NumAt b z w→NumAt b z w':=fun w w' z hx he h=>by
  obtain ⟨cs,h1,h2,h3⟩:=h;exact ⟨cs,by show w'.heap[b]? = _;rw [he];exact h1,h2,h3.extS hx (noW1 h1 (by decide))⟩
 exact ⟨hB.lt,hB,fun w w' _ hx he=>⟨key w w' q hx he,key w w' q' hx he⟩⟩
theorem NumAt.cell (h:NumAt b q w):Cell3 b w:=by obtain ⟨cs,h1,h2,_⟩:=h;exact ⟨cs,h1,h2⟩
theorem NumAt.now (h:NumAt b q w):NoW [b] w:=by obtain ⟨cs,h1,h2,_⟩:=h;exact noW1 h1 (by decide)
def encB (p:List Rat) (i:Nat) (args:Array Value) (w:World):Prop:=∃ v,args = #[.int .i64 ((p.length-1-i:Nat):Int),v]∧IsNum w v (p.getD (p.length-1-i) 0)
theorem CallK.conv {l:Nat} {K:Value→World→Prop} (h:zIq P l args w K) (hk:∀ v w',K v w'→K' v w'):zIq P l args w K':=by
 obtain ⟨fn,tmps,assign,body,h1,h2⟩:=h;exact ⟨fn,tmps,assign,body,h1,h2.mono fun e w' ⟨v,he,hv⟩=>⟨v,he,hk v w' hv⟩⟩
theorem backward1_ok {Kp:World→World→Prop} {pc:Nat} {pp:Option Addr} {p:List Rat} (hl:p.length≤4096) (l:Nat) (J:Nat→World→Prop) (hJr:∀ i w1,J i w1→Blk w1 bx 25 [.slice pp p.length pc]∧PRd w1 pp p) (hy:∀ i,i<p.length→∀ args w1,J i w1→encB p i args w1→zIq prog l args w1 (fun u w2=>u = .bool true∧J (i+1) w2∧Kp w1 w2)) (w:World) (h0:J 0 w):CallK prog 213 #[.func (.yield l) #[] #[],.pointer (some ⟨bx,0,none⟩)] w (fun _ w2=>J p.length w2):=by
 refine zCu 19 func213 rfl rfl (Nat.le_of_ble_eq_true rfl) (zA ?_);obtain ⟨hBx,hPx⟩:=hJr _ _ h0;refine K6 fun K=>K1 (zD zBK rfl hBx rfl (K1 (zI zAB rfl (K1 (zJ (v := .int .i64 (((p.length:Nat):Int)-1)) rfl rfl (congrArg (fun z=>some (Value.int .i64 z)) (zm (by omega) (by omega))) (ag (rs [0,1,3] K ?_)))))));refine zF ?_;clear hBx hPx;refine zg (X:=Nat) (fun k ρ w'=>Keep ρ [(0,.func (.yield l) #[] #[]),(1,.pointer (some ⟨bx,0,none⟩)),(3,.int .i64 (((k:Nat):Int)-1))]∧k≤p.length∧J (p.length-k) w') (fun k=>k) p.length ⟨(kp rfl),Nat.le_refl _,by rw [Nat.sub_self];exact h0⟩ ?_;clear h0;rintro k ρ1 w1 ⟨hk,hkl,hJ⟩;refine wpe_k _ hk ?_;clear hk ρ1;refine zA (zA ?_);rcases k with _ | j
 · skip
   refine rI fun K=>K8 rfl (rs [0,1,3,8] K ?_);exact wcf (congrArg Value.bool (decide_eq_false (by omega))) (zY (zx (zl (zL (zLl ⟨rfl,_,zFE rfl,by simpa using hJ⟩)))))
 · obtain ⟨hBx,hPx⟩:=hJr _ _ hJ;have hw1:((j+1:Nat):Int)-1=(j:Int):=by omega
   have hw2:IntKind.i64.wrap (((j+1:Nat):Int)-1-1)=(j:Int)-1:=by rw [zm (by omega) (by omega)];omega
   refine rI fun K=>K8 rfl (rs [0,1,3,8] K ?_);refine wct (congrArg Value.bool (decide_eq_true (by omega))) (sk (zA (zF (rJ fun K=>mv (K1 (zD zBK rfl hBx rfl (mv (K1 (runs_pindex (l:=p) (ix:=j) hPx rfl (congrArg (Value.int .i64) hw1) (by omega) (K1 (runs_pload hPx (i:=j) (by omega) rfl fun v16 N16=>K1 (zIm rfl ?_))))))))))));refine CallK.conv (hy (p.length-(j+1)) (by omega) #[.int .i64 (((j+1:Nat):Int)-1),v16] _ hJ ⟨v16,by rw [hw1,show p.length-1-(p.length-(j+1))=j from by omega],by rw [show p.length-1-(p.length-(j+1))=j from by omega];exact N16⟩) ?_;rintro _ w3 ⟨rfl,hJ2,-⟩;rw [show p.length-(j+1)+1=p.length-j from by omega] at hJ2;clear hJ hBx hPx N16;refine K1 (zq rfl (rm [0,1,3,18] K ?_));exact wcf rfl (zp (zR (zM (rI fun K=>K8 rfl (ag (rl K (zO (⟨rfl,j,⟨⟨rfl,rfl,rfl,rfl,rfl,congrArg (Value.int .i64) hw2,trivial⟩,by omega,hJ2⟩,by omega⟩))))))))
theorem Backward_ok:Ret prog 119 #[.slice p n c] w (fun r w'=>∃ bx,r = .func (.func 213) #[] #[.pointer (some ⟨bx,0,none⟩)]∧Blk w' bx 25 [.slice p n c]∧w.heap.size≤bx):=by
 refine J0 4 func119 rfl (rj fun K => ?_);refine K1 (zt fun b1 w1 hb hE hB1 hs => ?_);have hgb1:w.heap.size≤b1:=by rw [hb];exact E0.size
 replace E0:=E0.trans hE;clear hE hs hb;refine ag (rm [1] K ?_);refine rj fun K=>K1 (zBj (ag (rm [2] K ?_)));exact zE (en rfl E0 ⟨b1,rfl,hB1,hgb1⟩)
theorem zBp {p:List Rat} {x y:Rat} (hp:IsPoly w u p) (hx:IsNum w v x) (h:peval p x=some y):Ret prog 176 #[u,v] w (fun r w'=>IsNum w' r y):=by
 obtain ⟨pp,pc,rfl,hpc,hpP,hpl⟩:=hp;unfold peval at h;have hx0:=hx;obtain ⟨xn,xd,rfl,hxn,hxd⟩:=hx0;have E0:Ext w w:=Ext.refl w;refine zHS 18 func176 rfl rfl (Nat.le_of_ble_eq_true rfl) (rj fun K => ?_);refine K1 (zt fun b1 w1 hb hE hB1 hs => ?_);have hgb1:w.heap.size≤b1:=by rw [hb];exact E0.size
 replace E0:=E0.trans hE;replace hx:=hx.ext hE;clear hE hs hb;refine K1 (zV zAY fun b2 w2 hb hE hB2 hs => ?_);have hgb2:w.heap.size≤b2:=by rw [hb];exact E0.size
 have ne_b1_b2:b1≠b2:=by have:=hB1.lt;omega
 replace E0:=E0.trans hE;replace hx:=hx.ext hE;replace hB1:=hB1.ext hE;clear hE hs hb;refine rm [0,3,4] K ?_;refine rj fun K => ?_;refine K1 (zV zAY fun b3 w3 hb hE hB3 hs => ?_);have hgb3:w.heap.size≤b3:=by rw [hb];exact E0.size
 have ne_b1_b3:b1≠b3:=by have:=hB1.lt;omega
 have ne_b2_b3:b2≠b3:=by have:=hB2.lt;omega
 replace E0:=E0.trans hE;replace hx:=hx.ext hE;replace hB1:=hB1.ext hE;replace hB2:=hB2.ext hE;clear hE hs hb;refine rm [0,3,4,5] K ?_;refine zA (rJ fun K=>K1 (zH hb119 (CallK.of_ret Backward_ok fun v9 w9 hE hr => ?_) rfl));obtain ⟨bx,rfl,hBx,hgx⟩:=hr;have hx3:bx≠b3:=by have:=hB3.lt;omega
 replace E0:=E0.trans hE;replace hB1:=hB1.ext hE;replace hB2:=hB2.ext hE;replace hB3:=hB3.ext hE;replace hx:=hx.ext hE;clear hE;refine rm [3,4,5,9] K ?_;refine zF ?_;have hNX:NumAt b1 x _:=⟨_,hB1,rfl,hx⟩;have hN3:NumAt b3 0 _:=⟨_,hB3,rfl,IsNum.zero⟩;have hl1:w.heap.size≤_:=E0.size
 refine zKM rfl rfl hb213 (by decide) (fun i w'=>Ext w w'∧NumAt b1 x w'∧Blk w' b2 37 [Value.bool false,Value.slice none 0 0,Value.slice none 0 0]∧Blk w' bx 25 [.slice pp p.length pc]∧∃ acc,NumAt b3 acc w'∧evalL x (p.take (p.length-i)).reverse acc=some y) (fun _ _=>True) p.length (encB p)
  (fun i args w1 h=>by obtain ⟨v,e,_⟩:=h;rw [e];rfl)
  (fun w1 hE=>⟨E0.trans hE,hNX.ext hE,hB2.ext hE,hBx.ext hE,0,hN3.ext hE,by rw [Nat.sub_zero,List.take_length];exact h⟩)
  (fun i w1 w2 hI hE=>by obtain ⟨g1,g2,g3,g4,acc,g5,g6⟩:=hI;exact ⟨g1.trans hE,g2.ext hE,g3.ext hE,g4.ext hE,acc,g5.ext hE,g6⟩)
  (fun i l w1 w2 hl hI hO=>by obtain ⟨g1,g2,g3,g4,acc,g5,g6⟩:=hI;exact ⟨g1.oth hO (by omega),g2.le hO.le,g3.oth hO,g4.oth hO,acc,g5.le hO.le,g6⟩)
  (fun l J hJe hJi hy w1 _ h0=>backward1_ok hpl l J (fun i w2 hJ=>by obtain ⟨g1,g2,g3,g4,_⟩:=hJi i w2 hJ;exact ⟨g4,hpP.ext g1⟩) hy w1 h0)
  ?_ ?_
 clear E0 hB1 hB2 hB3 hBx hx hNX hN3 h
 · rintro l i args w1 hl hi ⟨E0,hNX,hB2,hBx,acc,hN3,hA⟩ ⟨c,rfl,N11⟩;obtain ⟨m,hm⟩:∃ m,p.length-i=m+1:=⟨p.length-i-1,by omega⟩;rw [show p.length-1-i=m from by omega] at N11 ⊢;rw [hm,zEO (by omega),List.reverse_append] at hA;unfold evalL at hA;obtain ⟨t1,ht1,hA⟩:=bind_some hA;obtain ⟨t2,ht2,hA⟩:=bind_some hA;obtain ⟨hr1,rfl⟩:=zCq ht1;obtain ⟨hr2,rfl⟩:=zEr ht2;refine wpe_k [(3,.pointer (some ⟨b1,0,none⟩)),(5,.pointer (some ⟨b3,0,none⟩)),(11,c)] (kp rfl) ?_;have hw1:=E0.size;refine K6 fun K => ?_;refine K1 (zV zAY fun bc2 w7 hb hE hBc hs => ?_);have hgc:w.heap.size≤bc2:=by rw [hb];exact hw1
   have hd3:bc2≠b3:=by have:=hN3.lt;omega
   have hd1:b1≠bc2:=by have:=hNX.lt;omega
   have hd2:b2≠bc2:=by have:=hB2.lt;omega
   have hd4:bx≠bc2:=by have:=hBx.lt;omega
   have hNC:=NC.ext hE;replace E0:=E0.trans hE;replace N11:=N11.ext hE;replace hNX:=hNX.ext hE;replace hB2:=hB2.ext hE;replace hBx:=hBx.ext hE;replace hN3:=hN3.ext hE;clear hE hb hs;refine K1 (zN rfl N11 (Cell3.of hBc rfl) fun _ w9 hU hNA => ?_);replace hNC:=hNC.trans (NC.upd hU hBc);replace E0:=E0.upd hU hgc;replace hNX:=hNX.upd hU hBc hd1;replace hB2:=hB2.upd hU hd2;replace hBx:=hBx.upd hU hd4;replace hN3:=hN3.upd hU hBc (Ne.symm hd3);clear hU hBc N11;refine rl K ⟨rfl,rfl,hNC,fun w5 hO => ?_⟩;replace E0:=E0.oth hO (by omega);replace hNX:=hNX.le hO.le;replace hB2:=hB2.oth hO;replace hBx:=hBx.oth hO;replace hN3:=hN3.le hO.le;replace hNA:=hNA.le hO.le;clear hO hNC;refine zF ?_;have hnw:NoW [b3] _:=hN3.now;have hN3c:=hN3;obtain ⟨cs3,hb3',-,-⟩:=hN3c;refine zDc [⟨5,b3,NumAt b3 acc,NumAt b3 (acc*x+p.getD m 0)⟩] [([(5,none)],none),([(3,none)],none),([(12,some 1),(13,some 0)],none),([(7,none)],none),([(14,some 1),(15,some 0)],none),([(5,none),(16,some 0)],none)] mixed (by kernel_rfl) (by kernel_rfl) (by kernel_rfl) (by simp) (by kernel_rfl) (by kernel_rfl) (all1 (numStOkB hN3)) fun K hK => ?_;refine dbn (fun v w'=>IsNum w' v acc) rfl (fun _ _ _ h1 hx h=>h.extS hx (hnw.ext h1)) (fun σ wx hE hp hk=>za hk.1 (hp _ (List.mem_singleton.2 rfl) (by show _<(5:Nat);decide)) fun v h=>⟨Ext.refl _,h⟩) ?_
   refine dbn (fun v w'=>IsNum w' v x) rfl (fun _ _ _ h1 hx h=>h.extS hx (hnw.ext h1)) (fun σ wx hE hp hk=>za hk.1 (hNX.extS hE (nin1 ne_b1_b3) hnw) fun v h=>⟨Ext.refl _,h⟩) (dbn (fun v w'=>IsNum w' v (acc*x)) rfl (fun _ _ _ h1 hx h=>h.extS hx (hnw.ext h1)) (fun σ wx hE hp hk=>zH hb101 (CallK.of_ret (zEi hk.1 hk.2.1 hr1) fun v w2 hX hr=>⟨hX,hr⟩) rfl) (dbn (fun v w'=>IsNum w' v (p.getD m 0)) rfl (fun _ _ _ h1 hx h=>h.extS hx (hnw.ext h1)) (fun σ wx hE hp hk=>za hk.1 (hNA.extS hE (nin1 hd3) hnw) fun v h=>⟨Ext.refl _,h⟩) (dbn (fun v w'=>IsNum w' v (acc*x+p.getD m 0)) rfl (fun _ _ _ h1 hx h=>h.extS hx (hnw.ext h1)) (fun σ wx hE hp hk=>zH hb146 (CallK.of_ret (Add_ok hk.1 hk.2.1 hr2) fun v w2 hX hr=>⟨hX,hr⟩) rfl) (dbs _ rfl (fun σ wx hE hpre hk=>zAt hk.1 hk.2.1 hpre.cell) (zKJ (hK _ fun wq hS hP => ?_))))));rintro v12 N12 v13 N13 v14 N14 v15 N15 v16 N16 _ _;refine zh ?_;obtain ⟨hN4,-⟩:=hP;replace E0:=E0.updS hS hgb3;replace hNX:=hNX.extS hS (nin1 ne_b1_b3) hnw;replace hB2:=hB2.extS hS (nin1 ne_b2_b3);replace hBx:=hBx.extS hS (nin1 hx3);refine zR ?_;refine ⟨rfl,NC.extS hS hb3',fun w8 hO=>⟨⟨E0.oth hO (by omega),hNX.le hO.le,hB2.oth hO,hBx.oth hO,_,hN4.le hO.le,by rw [show p.length-(i+1)=m from by omega];exact hA⟩,trivial⟩⟩
 · rintro D w2 hD ⟨E0,hNX,hB2,hBx,acc,hN3,hA⟩ hDf;rw [Nat.sub_self] at hA;obtain rfl:acc=y:=Option.some.inj hA;refine zR (zM (rj fun K=>K1 (za rfl hN3 fun v17 N17=>K1 (zN rfl N17 (Cell3.of hB2 rfl) fun _ w9 hU hN => ?_))));replace hDf:=NC.upd hU hB2 _ _ hDf rfl;replace E0:=E0.upd hU hgb2;obtain ⟨cs,hB4,hl4,hN4⟩:=hN;refine rm [4] K ?_;exact zE (zQ (⟨D,_,rfl,hDf,fun w2 hO=>⟨zv rfl rfl rfl zy (hB4.oth hO) hl4,E0.oth hO (by omega),hN4.le hO.le⟩⟩))
end Go.Proofs.YtjiendlfobjanaaGreatDoor
namespace Go.Proofs.YtjiendlfobjanaaGreatDoor
open Go Go.RowKit Go.Proofs Tryz
variable {A A':List Rat} {af:Array Edge} {b c i sz0 sz2:Nat} {g:Option (Nat×Bool)} {p:Option Addr} {pos:String} {q:Rat} {r:Option Nat} {ty:TypeId} {v:Value} {w w' w0:World} {x y:Operand} {σ:Operand→Value}
def AccB (b c:Nat) (w:World) (A:List Rat):Prop:=∃ cs,Blk w b 37 cs∧cs.length=3*c∧∀ i,i<A.length→IsNum w (.agg ((cs.drop (3*i)).take 3).toArray) (A.getD i 0)
theorem AccP.cases {sz:Nat} (h:AccP sz w v A) :
 (∃ b c,v = .slice (some ⟨b,0,none⟩) A.length c∧A.length+1≤c∧sz≤b∧AccB b c w A)∨(∃ p c,v = .slice p A.length c∧c<A.length+1):=by
 obtain ⟨p,c,h1,h2,h3⟩:=h;by_cases hc:A.length+1≤c
 · rcases h3 with ⟨e1,e2,e3⟩ | ⟨b,cs,e1,e2,e3,e4,e5⟩
   · omega
   · exact .inl ⟨b,c,by rw [h1,e1],hc,e2,cs,e3,e4,e5⟩
 · exact .inr ⟨p,c,h1,by omega⟩
theorem AccB.acc {sz:Nat} (h:AccB b c w A) (hs:sz≤b) (hc:A.length≤c):AccP sz w (.slice (some ⟨b,0,none⟩) A.length c) A:=by
 obtain ⟨cs,h1,h2,h3⟩:=h;exact ⟨_,c,rfl,hc,.inr ⟨b,cs,rfl,hs,h1,h2,h3⟩⟩
theorem accStOk (hB:AccB b c w0 A) :
 (⟨i,b,fun w=>AccB b c w A,fun w=>AccB b c w A'⟩:StoreSpec).blk<w0.heap.size∧(⟨i,b,fun w=>AccB b c w A,fun w=>AccB b c w A'⟩:StoreSpec).pre w0∧∀ w w',ExtS [b] w0 w→ExtS [b] w w'→w'.heap[(⟨i,b,fun w=>AccB b c w A,fun w=>AccB b c w A'⟩:StoreSpec).blk]? = w.heap[(⟨i,b,fun w=>AccB b c w A,fun w=>AccB b c w A'⟩:StoreSpec).blk]? →
  ((⟨i,b,fun w=>AccB b c w A,fun w=>AccB b c w A'⟩:StoreSpec).pre w→(⟨i,b,fun w=>AccB b c w A,fun w=>AccB b c w A'⟩:StoreSpec).pre w')∧((⟨i,b,fun w=>AccB b c w A,fun w=>AccB b c w A'⟩:StoreSpec).post w→(⟨i,b,fun w=>AccB b c w A,fun w=>AccB b c w A'⟩:StoreSpec).post w'):=by
 have key:∀ (w w':World) (L:List Rat),ExtS [b] w w'→w'.heap[b]? = w.heap[b]?→AccB b c w L→AccB b c w' L:=fun w w' L hx he h=>by
  obtain ⟨cs,h1,h2,h3⟩:=h;exact ⟨cs,by show w'.heap[b]? = _;rw [he];exact h1,h2,fun i hi=>(h3 i hi).extS hx (noW1 h1 (by decide))⟩
 have hlt:b<w0.heap.size:=by obtain ⟨cs,h1,_⟩:=hB;exact h1.lt
 exact ⟨hlt,hB,fun w w' _ hx he=>⟨key w w' A hx he,key w w' A' hx he⟩⟩
theorem AccB.now (h:AccB b c w A):NoW [b] w:=by obtain ⟨cs,h1,_⟩:=h;exact noW1 h1 (by decide)
def OneR (sz:Nat) (q:Rat) (v:Value) (w:World):Prop:=∃ b c1 c2 c3,v = .slice (some ⟨b,0,none⟩) 1 1∧sz≤b∧Blk w b 37 [c1,c2,c3]∧IsNum w (.agg #[c1,c2,c3]) q
theorem OneR.ext {sz:Nat} (h:OneR sz q v w) (hx:Ext w w'):OneR sz q v w':=by
 obtain ⟨b,c1,c2,c3,h1,h2,h3,h4⟩:=h;exact ⟨b,c1,c2,c3,h1,h2,h3.ext hx,h4.ext hx⟩
theorem OneR.extS {sz:Nat} (h:OneR sz q v w) (hx:ExtS [b] w w') (hb:b<sz) (hS:NoW [b] w):OneR sz q v w':=by
 obtain ⟨b',c1,c2,c3,h1,h2,h3,h4⟩:=h;exact ⟨b',c1,c2,c3,h1,h2,h3.extS hx (by simp;omega),h4.extS hx hS⟩
section laws
variable {d:Option Tmp}
theorem runs_one {sz:Nat} (hy:IsNum w (σ y) q) (hs:sz≤w.heap.size):Runs prog r ⟨d,.buildSlice 25 1 #[(0,y)],ty,pos,af,g⟩ σ w (fun v w'=>Ext w w'∧OneR sz q v w'):=by
 have hy0:=hy;obtain ⟨n,dd,he,hn,hd⟩:=hy;rw [he] at hy0;refine zi (cs:=[.bool (decide (q<0)),n,dd]) zAc info37' (by decide) (by decide) ?_ fun b w' hb hE hB hs'=>⟨hE,b,_,_,_,rfl,by omega,hB,hy0.ext hE⟩;show Instr.fill _ _ [(0,σ y)]=_;rw [he]
 kernel_rfl
theorem runs_appE_in {sz:Nat} (hx:σ x = .slice (some ⟨b,0,none⟩) A.length c) (hc:A.length+1≤c) (hB:AccB b c w A) (hy:OneR sz q (σ y) w) :
 Runs prog r ⟨d,.call { callee := .builtin .append,args := #[x,y],argTypes := #[25,25] },ty,pos,af,g⟩ σ w (fun v w'=>ExtS [b] w w'∧AccB b c w' (A++[q])∧v = .slice (some ⟨b,0,none⟩) (A++[q]).length c):=by
 obtain ⟨cs,h1,h2,h3⟩:=hB;obtain ⟨b2,c1,c2,c3,e1,_,e2,hq⟩:=hy;have hok:[c1,c2,c3].all zAp=true:=by
  obtain ⟨n,dd,he,hn,hd⟩:=hq;obtain ⟨p1,ds1,k1,rfl,-⟩:=hn;obtain ⟨p2,ds2,k2,rfl,-⟩:=hd;cases he;rfl
 refine zAg (n:=3) zAc zAc zDx hx e1 h1 (Cells.blk e2) rfl hc (by omega) hok fun w' hU hN=>⟨hU.toS (by simp),?_,by simp⟩;rw [Nat.zero_add,show A.length*3=3*A.length from by omega] at hN;refine ⟨_,hN,by rw [zAh];exact h2,fun i hi => ?_⟩;by_cases hi':i<A.length
 · rw [zAz (by omega),if_neg (by omega),zDJ hi'];exact (h3 i hi').upd hU h1 (by decide)
 · have:i=A.length:=by simp at hi;omega
   subst this;rw [zAz (by omega),if_pos rfl,zDM];exact hq.upd hU h1 (by decide)
theorem runs_appE_grow {sz:Nat} (hx:σ x = .slice p A.length c) (hA:AccP sz0 w (.slice p A.length c) A) (hc:c<A.length+1) (hy:OneR sz2 q (σ y) w) (hl:A.length<4096) (hs:sz≤w.heap.size) :
 Runs prog r ⟨d,.call { callee := .builtin .append,args := #[x,y],argTypes := #[25,25] },ty,pos,af,g⟩ σ w (fun v w'=>Ext w w'∧AccP sz w' v (A++[q])):=by
 obtain ⟨b2,c1,c2,c3,e1,_,e2,hq⟩:=hy;obtain ⟨p',c',h1,h2,h3⟩:=hA;cases h1;have hnew:=zAS (A.length+1) c;have hold:∃ old,Cells w p 37 old∧old.length=A.length*3∧∀ i,i<A.length→IsNum w (.agg ((old.drop (3*i)).take 3).toArray) (A.getD i 0):=by
  rcases h3 with ⟨e1,e2,e3⟩ | ⟨b,cs,e1,e2,e3,e4,e5⟩
  · subst e1;exact ⟨[],.inl rfl,rfl,fun i hi=>by simp at hi⟩
  · refine ⟨cs.take (A.length*3),.inr ⟨b,0,cs,e1,e3,by simp⟩,by simp;omega,fun i hi => ?_⟩;have:=e5 i hi;rwa [show ((cs.take (A.length*3)).drop (3*i)).take 3=(cs.drop (3*i)).take 3 from by
     rw [List.drop_take,List.take_take,Nat.min_eq_left (by omega)]]
 obtain ⟨old,o1,o2,o3⟩:=hold;refine zAO zAc zAc zDx rfl (by decide) hx e1 o1 o2 (Cells.blk e2) rfl (by omega) (by omega) fun w' rest c' g1 hE hB g2 _=>⟨hE,?_⟩;have hrl:rest.length=(c'-(A.length+1))*3:=by rw [g2];simp [Builtin.zeroCells,Value.cells]
 refine ⟨_,c',by simp,by simpa using g1,.inr ⟨w.heap.size,_,rfl,hs,hB,by simp [o2,hrl];omega,fun i hi => ?_⟩⟩;by_cases hi':i<A.length
 · rw [zDJ hi',List.append_assoc,zCy (by omega)];exact (o3 i hi').ext hE
 · have:i=A.length:=by simp at hi;omega
   subst this;rw [zDM,List.append_assoc,List.drop_append_of_le_length (by omega),List.drop_of_length_le (by omega)];simpa using hq.ext hE
end laws
end Go.Proofs.YtjiendlfobjanaaGreatDoor
namespace Go.Proofs.YtjiendlfobjanaaGreatDoor
open Go Go.RowKit Go.Proofs Tryz
set_option maxRecDepth 10000
set_option maxHeartbeats 2000000
attribute [local irreducible] Runs WPE CallK Ret
variable {v:Value} {w:World}
theorem zFo {p s:List Rat} (hp:IsPoly w v p) (h:zIX p=some s):Ret prog 256 #[v] w (fun r w'=>IsOwn w.heap.size w' r s):=by
 obtain ⟨pp,pc,rfl,hpc,hpP,hpl⟩:=hp;obtain ⟨L,hL,hLs⟩:=map_some h;have E0:Ext w w:=Ext.refl w;refine J0 25 func256 rfl (rj fun K=>ag (rm [0] K ?_));refine rj fun K=>ag (rm [0,3] K ?_);refine zA (rJ fun K=>K1 (zI zAB rfl (mv (rm [3,6,7,8] K ?_))));refine zF (zg (X:=Nat) (fun i ρ w'=>∃ v3 A,Keep ρ [(3,v3),(6,.slice pp p.length pc),(7,.int .i64 (p.length:Nat)),(8,.int .i64 (i:Nat))]∧i≤p.length∧Ext w w'∧AccP w.heap.size w' v3 A∧A.length≤i∧∃ B,zGi (p.drop i) i=some B∧A++B=L) (fun i=>p.length-i) 0 ⟨_,[],(kp rfl),Nat.zero_le _,E0,AccP.nil,Nat.le_refl _,L,hL,rfl⟩ ?_);clear E0 hL;rintro i ρ1 w1 ⟨v3,A,hk,hil,E0,hA,hAl,⟨B,hB,hAB0⟩⟩;refine wpe_k _ hk ?_;clear hk ρ1;refine rj fun K=>K8 rfl (rm [3,6,7,8,9] K ?_);refine zA ?_;refine K0 rfl ?_ ?_<;>intro hc
 · have hlt:i<p.length:=t_lt hc;clear hc;have hq1:=hpP.ext E0;rw [zDm hlt] at hB;unfold zGi at hB;refine sk (zA (zF (rJ fun K=>K1 (runs_pindex (l:=p) hq1 rfl rfl hlt (K1 (runs_pload hq1 hlt rfl fun v23 N23 => ?_))))));refine K1 (zV zAY fun bc2 w7 hb hE hBc hs => ?_);have hgc:w.heap.size≤bc2:=by rw [hb];exact E0.size
   have hna:=hA.new (c:=bc2) (by omega);replace E0:=E0.trans hE;replace N23:=N23.ext hE;replace hA:=hA.ext hE;clear hE hb hs;refine ag (K1 (zN rfl N23 (Cell3.of hBc rfl) fun _ w9 hU hNA => ?_));replace E0:=E0.upd hU hgc;replace hA:=hA.upd hU hBc hna;clear hU hBc N23;refine rm [3,4,5,6,7,8] K ?_;refine rJ fun K=>K8 rfl (rm [3,4,5,6,7,8,14] K ?_);refine K0 rfl ?_ ?_<;>intro hc
   · have hi0:i≠0:=by have:=of_decide_eq_true hc;omega
     clear hc;rw [if_neg hi0] at hB;obtain ⟨m,hm,hB⟩:=bind_some hB;obtain ⟨hr1,rfl⟩:=zCq hm;obtain ⟨B2,hB2,hB⟩:=bind_some hB;cases hB;rcases hA.cases with ⟨ab,ac,hv3,hac,hsb,hAB⟩ | ⟨ap,ac,hv3,hac⟩
     · skip
       have hnw:NoW [ab] _:=hAB.now;have hlt9:ab<w9.heap.size:=by obtain ⟨_,hab,_⟩:=hAB;exact hab.lt
       have hne6:bc2≠ab:=Ne.symm (hna ab ac hv3);subst hv3
       refine zFX [⟨6,ab,fun w=>AccB ab ac w A,fun w=>AccB ab ac w (A++[p.getD i 0*(i:Rat)])⟩] [([(3,none)],none),([(5,none)],none),([(4,none)],none),([(17,some 0)],none),([(16,some 2),(18,some 0)],none),([(19,some 0)],none),([(15,some 5),(20,some 0)],none),([(21,some 0)],none)] mixed (by kernel_rfl) (by kernel_rfl) (by kernel_rfl) (by simp) (by kernel_rfl) (all1 (accStOk hAB)) fun K hK=>dev rfl (fun σ wx hE hk=>zC ⟨Ext.refl _,hk.1⟩) (den (fun v w'=>IsNum w' v (p.getD i 0)) rfl (fun _ _ _ h1 hx h=>h.extS hx (hnw.ext h1)) (fun σ wx hE hk=>za hk.1 (hNA.extS hE (nin1 hne6) hnw) fun v h=>⟨Ext.refl _,h⟩) (dev rfl (fun σ wx hE hk=>zC ⟨Ext.refl _,hk.1⟩) (den (fun v w'=>IsNum w' v (i:Rat)) rfl (fun _ _ _ h1 hx h=>h.extS hx (hnw.ext h1)) (fun σ wx hE hk=>zH hb38 (CallK.eq1 hk.1 (CallK.of_ret (Int_ok (n:=((i:Nat):Int)) (by omega) (by omega)) fun v w2 hX hr=>⟨hX,hr⟩)) rfl) (den (fun v w'=>IsNum w' v (p.getD i 0*(i:Rat))) rfl (fun _ _ _ h1 hx h=>h.extS hx (hnw.ext h1)) (fun σ wx hE hk=>zH hb101 (CallK.of_ret (zEi hk.1 hk.2.1 hr1) fun v w2 hX hr=>⟨hX,hr⟩) rfl) (den (OneR w9.heap.size (p.getD i 0*(i:Rat))) rfl (fun _ _ _ h1 hx h=>h.extS hx hlt9 (hnw.ext h1)) (fun σ wx hE hk=>runs_one hk.1 hE.size) (des _ (fun v _=>v = .slice (some ⟨ab,0,none⟩) (A++[p.getD i 0*(i:Rat)]).length ac) rfl (fun _ _ _ _ _ h=>h) (fun σ wx hE hpre hk=>runs_appE_in hk.1 hac hpre hk.2.1) (dev rfl (fun σ wx hE hk=>zS ⟨Ext.refl _,hk.1⟩) (zHR (hK _ fun wq hS hP => ?_)))))))))
       rintro _ rfl v16 N16 _ rfl v18 N18 v19 N19 v20 N20 _ rfl _ rfl;refine zh ?_;obtain ⟨hB2',-⟩:=hP;replace E0:=E0.updS hS hsb;have hA':=hB2'.acc hsb (show (A++[p.getD i 0*(i:Rat)]).length≤ac by simp;omega);have hAl':(A++[p.getD i 0*(i:Rat)]).length≤i+1:=by simp;omega
       have hB':∃ B,zGi (p.drop (i+1)) (i+1)=some B∧(A++[p.getD i 0*(i:Rat)])++B=L:=⟨B2,hB2,by rw [List.append_assoc];exact hAB0⟩;refine zR (zM (K5 [3,6,7,8] ?_));exact K6 fun K=>K8 rfl (mv (rl K (zO (⟨rfl,i+1,⟨_,_,⟨rfl,rfl,rfl,rfl,rfl,rfl,rfl,congrArg (Value.int .i64) (zr (by omega)),trivial⟩,by omega,E0,hA',hAl',hB'⟩,by omega⟩))))
     · skip
       have hsz9:=E0.size;subst hv3
       refine zAK [([(3,none)],none),([(5,none)],none),([(4,none)],none),([(17,some 0)],none),([(16,some 2),(18,some 0)],none),([(19,some 0)],none),([(15,some 5),(20,some 0)],none),([(21,some 0)],none)] mixed (by kernel_rfl) (by kernel_rfl) (by kernel_rfl) fun K hK=>dvp (fun σ wx hE hk=>zC ⟨Ext.refl _,hk.1⟩) (dcp (fun v w'=>IsNum w' v (p.getD i 0)) (fun _ _ _ _ hx h=>h.ext hx.toExt) (fun σ wx hE hk=>za hk.1 (hNA.ext hE) fun v h=>⟨Ext.refl _,h⟩) (dvp (fun σ wx hE hk=>zC ⟨Ext.refl _,hk.1⟩) (dcp (fun v w'=>IsNum w' v (i:Rat)) (fun _ _ _ _ hx h=>h.ext hx.toExt) (fun σ wx hE hk=>zH hb38 (CallK.eq1 hk.1 (CallK.of_ret (Int_ok (n:=((i:Nat):Int)) (by omega) (by omega)) fun v w2 hX hr=>⟨hX,hr⟩)) rfl) (dcp (fun v w'=>IsNum w' v (p.getD i 0*(i:Rat))) (fun _ _ _ _ hx h=>h.ext hx.toExt) (fun σ wx hE hk=>zH hb101 (CallK.of_ret (zEi hk.1 hk.2.1 hr1) fun v w2 hX hr=>⟨hX,hr⟩) rfl) (dcp (OneR w9.heap.size (p.getD i 0*(i:Rat))) (fun _ _ _ _ hx h=>h.ext hx.toExt) (fun σ wx hE hk=>runs_one hk.1 hE.size) (dcp (fun v w'=>AccP w.heap.size w' v (A++[p.getD i 0*(i:Rat)])) (fun _ _ _ _ hx h=>h.ext hx.toExt) (fun σ wx hE hk=>runs_appE_grow hk.1 (hA.ext hE) hac hk.2.1 (by omega) (E0.trans hE).size) (dcp (fun v w'=>AccP w.heap.size w' v (A++[p.getD i 0*(i:Rat)])) (fun _ _ _ _ hx h=>h.ext hx.toExt) (fun σ wx hE hk=>zS ⟨Ext.refl _,hk.1⟩) (zAi (hK _ fun wq hE => ?_)))))))))
       rintro _ rfl v16 N16 _ rfl v18 N18 v19 N19 v20 N20 v21 N21 v3 N3;refine zh ?_;replace E0:=E0.trans hE;clear hE;refine zR (zM (K5 [3,6,7,8] ?_));have hA':=N3;have hAl':(A++[p.getD i 0*(i:Rat)]).length≤i+1:=by simp;omega
       have hB':∃ B,zGi (p.drop (i+1)) (i+1)=some B∧(A++[p.getD i 0*(i:Rat)])++B=L:=⟨B2,hB2,by rw [List.append_assoc];exact hAB0⟩;exact K6 fun K=>K8 rfl (mv (rl K (zO (⟨rfl,i+1,⟨_,_,⟨rfl,rfl,rfl,rfl,rfl,rfl,rfl,congrArg (Value.int .i64) (zr (by omega)),trivial⟩,by omega,E0,hA',hAl',hB'⟩,by omega⟩))))
   · have hi0:i=0:=by have:=of_decide_eq_false hc;omega
     clear hc;rw [if_pos hi0] at hB;have hA':=hA;have hAl':A.length≤i+1:=by omega
     have hB':∃ B,zGi (p.drop (i+1)) (i+1)=some B∧A++B=L:=⟨B,by rw [hi0] at hB ⊢;exact hB,hAB0⟩;exact zp (zR (zM (K6 fun K=>K8 rfl (mv (rl K (zO (⟨rfl,i+1,⟨_,_,⟨rfl,rfl,rfl,rfl,rfl,rfl,rfl,congrArg (Value.int .i64) (zr (by omega)),trivial⟩,by omega,E0,hA',hAl',hB'⟩,by omega⟩)))))))
 · have hge:=f_lt hc;obtain rfl:i=p.length:=by omega
   clear hc;rw [List.drop_length] at hB;cases hB;rw [List.append_nil] at hAB0;subst hAB0;refine zY (zx (zl (zL (zM (rj fun K=>mv ?_)))));have hsz:=E0.size;refine K1 (j0 E0 hb34 (zCY (hA.own (by omega)).poly) fun v9 w9 E0 hr => ?_);rw [hLs] at hr;refine ag (rm [2,6,7,8] K ?_);exact zE (en rfl E0 (hr.sz hsz))
variable {bx cap i:Nat} {l:List Rat} {p:Option Addr} {u:Value}
theorem rsign_bound (x:Rat) : -1≤rsign x∧rsign x≤1:=by
 unfold rsign;rcases Int.lt_trichotomy x.num 0 with a | a | a
 · rw [Int.sign_eq_neg_one_of_neg a];decide
 · rw [a];decide
 · rw [Int.sign_eq_one_of_pos a];decide
theorem PRd.one (h:PRd w p l) (hi:i<l.length) (hc:l.length≤cap):IsPoly w (.slice (if cap=i then p else p.map (fun a=>a.add (i*3))) 1 (cap-i)) [l.getD i 0]:=by
 rcases h with h | ⟨b,o,cs,h1,h2,h3,h4⟩
 · subst h;simp at hi
 · refine ⟨_,_,rfl,by simp;omega,.inr ⟨b,o+3*i,cs,?_,h2,by simp;omega,fun j hj => ?_⟩,by simp⟩
   · rw [if_neg (by omega),h1];simp [zAa,Nat.mul_comm]
   · have:j=0:=by simp at hj;omega
     subst this;have:=h4 i hi;simpa using this
theorem simple_ok {p s:List Rat} (hp:IsPoly w v p) (h:zNJ p=some s):Ret prog 312 #[v] w (fun r w'=>IsOwn w.heap.size w' r s):=by
 obtain ⟨d,h1,h⟩:=bind_some h;obtain ⟨g,h2,h3⟩:=bind_some h;have E0:Ext w w:=Ext.refl w;refine J0 9 func312 rfl (rj fun K=>ag (rm [0] K ?_));refine rJ fun K=>mv (mv (K1 (j1 E0 hp.ext hb256 (zFo hp h1) fun v6 w2 E0 hp N6=>K1 (j1 E0 hp.ext hb168 (zEk hp N6.poly h2) fun v7 w2 E0 hp N7 => ?_))));have hsz:=E0.size;refine K1 (j0 E0 hb170 (zEN hp N7.poly h3) fun v8 w2 E0 N8=>ag (rm [2] K ?_));exact zE (en rfl E0 (N8.sz hsz))
theorem ends1_ok {p:List Rat} {bm:Nat} {m:Bool} (hp:IsPoly w v p) (h0:p≠[]) (hB:Blk w bm 4 [.bool m]):Ret prog 258 #[v,.pointer (some ⟨bm,0,none⟩)] w (fun u _=>u = .int .i64 (endS m p)):=by
 have hp0:=hp;obtain ⟨pp,pc,rfl,hpc,hpP,hpl⟩:=hp0;refine J0 18 func258 rfl (rj fun K=>ag (rm [0,1] K ?_));refine rJ fun K=>K1 (j1 E0 hB.ext hb259 (zKQ hp h0) fun v6 w2 E0 hB N6=>K1 (zH hb19 (CallK.of_ret (Sign_ok N6) fun v7 w3 hE hr => ?_) rfl));subst hr;replace E0:=E0.trans hE;replace hB:=hB.ext hE;clear hE N6;refine ag (rm [0,1,4] K ?_);refine zA (zA ?_);rcases m with _ | _
 · skip
   refine K6 fun K=>K1 (zD zCg rfl hB rfl (mv (K3 (K3 (K3 (K3 (pk rfl (rs [4,14] K ?_))))))));refine wcf rfl (sk (rJ fun K=>ag (rm [3] K ?_)));refine zE (zQ ?_);exact ⟨rfl,_,zj rfl rfl,E0,by rw [endS,if_neg (by simp)];rfl⟩
 · skip
   refine K6 fun K=>K1 (zD zCg rfl hB rfl (mv (K7 (K2 (zI zAB rfl (K2 (zAH (b:=2) (p.length%2) rfl rfl (by decide) rfl (K2 (zJ rfl rfl rfl (pk rfl (rs [4,14] K ?_)))))))))));refine K0 rfl ?_ ?_<;>intro hc
   · have hm:p.length%2=0:=by have:=eq_of_beq hc;omega
     clear hc;refine rI fun K=>K1 (zJL rfl ?_);rw [show IntKind.i64.wrap (0-rsign (top p)) = - rsign (top p) from by have:=rsign_bound (top p);rw [zm (by omega) (by omega)];omega];refine ag (rs [4] K ?_);refine rJ fun K=>ag (rm [3] K ?_);refine zE (zQ ?_);exact ⟨rfl,_,zj rfl rfl,E0,by rw [endS];simp [hm,look1]⟩
   · have hm:¬ p.length%2=0:=by have:=beq_eq_false_iff_ne.1 hc;omega
     clear hc;refine sk (rJ fun K=>ag (rm [3] K ?_));refine zE (zQ ?_);exact ⟨rfl,_,zj rfl rfl,E0,by rw [endS];simp [hm,look1]⟩
theorem zGd {m:Bool}:Ret prog 173 #[.bool m] w (fun r w'=>∃ bm,r = .func (.func 258) #[] #[.pointer (some ⟨bm,0,none⟩)]∧Blk w' bm 4 [.bool m]):=by
 refine J0 4 func173 rfl (rj fun K => ?_);refine K1 (zt fun b1 w1 hb hE hB1 hs => ?_);have hgb1:w.heap.size≤b1:=by rw [hb];exact E0.size
 replace E0:=E0.trans hE;clear hE hs hb;refine ag (rm [1] K ?_);refine rj fun K=>K1 (zBj (ag (rm [2] K ?_)));exact zE (en rfl E0 ⟨b1,rfl,hB1⟩)
theorem at1_ok {p:List Rat} {x y:Rat} (hp:IsPoly w v p) (hN:NumAt bx x w) (h:peval p x=some y):Ret prog 350 #[v,.pointer (some ⟨bx,0,none⟩)] w (fun u _=>u = .int .i64 (rsign y)):=by
 refine J0 8 func350 rfl (rj fun K=>ag (rm [0,1] K ?_));refine rJ fun K=>K1 (za rfl hN fun v5 N5=>K1 (j0 E0 hb176 (zBp hp N5 h) fun v6 w2 E0 N6=>K1 (zH hb19 (CallK.of_ret (Sign_ok N6) fun v7 w3 hE hr => ?_) rfl)));subst hr;replace E0:=E0.trans hE;clear hE N6;refine ag (rm [3] K ?_);exact zE (en rfl E0 rfl)
theorem at_ok {x:Rat} (hx:IsNum w v x):Ret prog 315 #[v] w (fun r w'=>∃ bx,r = .func (.func 350) #[] #[.pointer (some ⟨bx,0,none⟩)]∧NumAt bx x w'):=by
 have hx0:=hx;obtain ⟨xn,xd,rfl,hxn,hxd⟩:=hx0;refine J0 4 func315 rfl (rj fun K => ?_);refine K1 (zt fun b1 w1 hb hE hB1 hs => ?_);have hgb1:w.heap.size≤b1:=by rw [hb];exact E0.size
 replace E0:=E0.trans hE;replace hx:=hx.ext hE;clear hE hs hb;refine ag (rm [1] K ?_);refine rj fun K=>K1 (zBj (ag (rm [2] K ?_)));exact zE (zQ (⟨rfl,_,zj rfl rfl,E0,b1,rfl,⟨_,hB1,rfl,hx⟩⟩))
theorem zDf {p m:List Rat} (hp:IsPoly w v p) (h:zGC p=some m):Ret prog 313 #[v] w (fun r w'=>IsOwn w.heap.size w' r m):=by
 have E0:Ext w w:=Ext.refl w;refine J0 16 func313 rfl (rj fun K=>ag (rm [0] K ?_));refine zA (rJ fun K=>K1 (zH hb34 (CallK.of_ret (zCY hp) fun v4 w4 hE hT => ?_) rfl));have hsz:=E0.size;replace E0:=E0.trans hE;clear hE;have hT0:=hT;obtain ⟨tp,tc,rfl,htc,hTP,htl,_⟩:=hT0;refine ag (rm [0] K ?_);refine rJ fun K=>K1 (zI zAB rfl (K8 rfl (rm [0,7] K ?_)));refine K0 rfl ?_ ?_<;>intro hc
 · have h0:trim p≠[]:=fun e=>by rw [e] at hc;cases hc
   clear hc;rw [zGC,if_neg h0] at h;obtain ⟨c,hd,hs⟩:=bind_some h;obtain ⟨hr1,rfl⟩:=zDz hd;have hT:=hT.poly;refine rI fun K=>K1 (j1 E0 hT.ext hb38 (Int_ok (n:=1) (by decide) (by decide)) fun v9 w9 E0 hT N9=>mv (K1 (j2 E0 hT.ext N9.ext hb259 (zKQ hT h0) fun v11 w11 E0 hT N9 N11=>K1 (j2 E0 hT.ext N9.ext hb236 (zMu N11) fun v12 w11 E0 hT N9 N12=>K1 (j1 E0 hT.ext hb311 (zJB N9 N12 hr1) fun v13 w12 E0 hT N13=>K1 (zH hb56 (CallK.of_ret (zFK hT N13 hs) fun v14 w13 hE hr => ?_) rfl))))));have hsz2:=E0.size;replace E0:=E0.trans hE;clear hE hT;have hT:=hr.sz hsz2;refine ag (rs [0] K ?_);refine rJ fun K=>ag (rm [2] K ?_);exact zE (en rfl E0 hT)
 · have h0:trim p=[]:=List.eq_nil_of_length_eq_zero (by have:=of_decide_eq_false hc;omega);clear hc;rw [zGC,if_pos h0] at h;obtain rfl:m=trim p:=by rw [h0];exact (Option.some.inj h).symm
   have hT:=hT.sz hsz;refine sk (rJ fun K=>ag (rm [2] K ?_));exact zE (en rfl E0 hT)
theorem line_ok:Ret prog 167 #[] w (fun r w'=>IsOwn w.heap.size w' r [0,1]):=by
 refine J0 4 func167 rfl (rj fun K=>ag (rm [] K ?_));refine rj fun K=>K1 (j0 E0 hb38 (Int_ok (n:=0) (by decide) (by decide)) fun v1 w2 E0 N1=>K1 (j1 E0 N1.ext hb38 (Int_ok (n:=1) (by decide) (by decide)) fun v2 w2 E0 N1 N2 => ?_));obtain ⟨n1,d1,rfl,hn1,hd1⟩:=N1;obtain ⟨n2,d2,rfl,hn2,hd2⟩:=N2;refine K1 (zi (cs:=[.bool (decide (((0:Int):Rat)<0)),n1,d1,.bool (decide (((1:Int):Rat)<0)),n2,d2]) zAc info37' (by decide) (by decide) (by kernel_rfl) fun bb w10 hb hE hBb hs => ?_);have hgb:w.heap.size≤bb:=by rw [hb];exact E0.size
 replace E0:=E0.trans hE;have M1:IsNum _ (.agg #[.bool (decide (((0:Int):Rat)<0)),n1,d1]) ((0:Int):Rat):=⟨_,_,rfl,hn1.ext hE,hd1.ext hE⟩;have M2:IsNum _ (.agg #[.bool (decide (((1:Int):Rat)<0)),n2,d2]) ((1:Int):Rat):=⟨_,_,rfl,hn2.ext hE,hd2.ext hE⟩;clear hE hb hs;refine ag (rm [0] K ?_);refine zE (zQ (⟨rfl,_,zj rfl rfl,E0,_,2,rfl,Nat.le_refl _,.inr ⟨bb,0,_,rfl,hBb,by simp,fun i hi => ?_⟩,by simp,fun _=>⟨bb,rfl,hgb⟩⟩))
 match i,hi with
 | 0,_=>exact M1
 | 1,_=>exact M2
theorem along_ok {vx vy:Value} {p x y R I:List Rat} (hp:IsPoly w u p) (hx:IsPoly w vx x) (hy:IsPoly w vy y) (h:along p x y=some (R,I)):Ret prog 166 #[u,vx,vy] w (fun r w'=>∃ a b,r = .tuple #[a,b]∧IsPoly w' a R∧IsPoly w' b I):=by
 obtain ⟨pp,pc,rfl,hpc,hpP,hpl⟩:=hp;unfold along at h;have E0:Ext w w:=Ext.refl w;refine J0 38 func166 rfl (rj fun K=>ag (ag (rm [0,1,2,6,7] K ?_)));refine zA (rJ fun K=>K1 (zI zAB rfl (K1 (zJ (v := .int .i64 (((p.length:Nat):Int)-1)) rfl rfl (congrArg (fun z=>some (Value.int .i64 z)) (zm (by omega) (by omega))) (ag (rm [0,1,2,6,7,8] K ?_))))));refine zF ?_;refine zg (X:=Nat) (fun k ρ w'=>∃ v6 v7 re im,Keep ρ [(0,.slice pp p.length pc),(1,vx),(2,vy),(6,v6),(7,v7),(8,.int .i64 (((k:Nat):Int)-1))]∧k≤p.length∧Ext w w'∧IsPoly w' v6 re∧IsPoly w' v7 im∧zKf x y (p.take k).reverse re im=some (R,I)) (fun k=>k) p.length ⟨_,_,[],[],(kp rfl),Nat.le_refl _,E0,IsPoly.nil,IsPoly.nil,by rw [List.take_length];exact h⟩ ?_;clear E0 h;rintro k ρ1 w1 ⟨v6,v7,re,im,hk,hkl,E0,h6,h7,hA⟩;have hx1:=hx.ext E0;have hy1:=hy.ext E0;refine wpe_k _ hk ?_;clear hk ρ1;refine zA (zA ?_);rcases k with _ | j
 · simp only [List.take_zero,List.reverse_nil,zKf] at hA;cases hA;refine rI fun K=>K8 rfl (rs [0,1,2,6,7,8,13] K ?_);refine wcf (congrArg Value.bool (decide_eq_false (by omega))) (zY (zx (zl (zL (zM (rJ fun K=>mv (ag (ag (rm [0,6,7,8] K ?_)))))))));exact zE (zQ ⟨rfl,_,zw rfl rfl rfl,E0,_,_,rfl,h6,h7⟩)
 · have hw1:((j+1:Nat):Int)-1=(j:Int):=by omega
   have hw2:IntKind.i64.wrap ((j:Int)-1)=(j:Int)-1:=zm (by omega) (by omega);rw [hw1];have hpP1:=hpP.ext E0;rw [zEO (by omega),List.reverse_append] at hA;unfold zKf at hA;obtain ⟨a,ha,hA⟩:=bind_some hA;obtain ⟨b,hb,hA⟩:=bind_some hA;obtain ⟨s,hs,hA⟩:=bind_some hA;obtain ⟨re2,hre2,hA⟩:=bind_some hA;obtain ⟨e,he,hA⟩:=bind_some hA;obtain ⟨g,hg,hA⟩:=bind_some hA;obtain ⟨im2,him2,hA⟩:=bind_some hA;refine rI fun K=>K8 rfl (rs [0,1,2,6,7,8,13] K ?_)
   refine wct (congrArg Value.bool (decide_eq_true (by omega))) (sk (zA (zF (zAK [([(6,none)],none),([(1,none)],none),([(16,some 1),(17,some 0)],none),([(7,none)],none),([(2,none)],none),([(19,some 1),(20,some 0)],none),([(18,some 3),(21,some 0)],none),([(0,none)],none),([(8,none)],none),([(8,none)],none),([(25,some 0)],none),([(23,some 3),(24,some 2),(26,some 0)],none),([(22,some 5),(27,some 0)],none),([(6,none)],none),([(2,none)],none),([(29,some 1),(30,some 0)],none),([(7,none)],none),([(1,none)],none),([(32,some 1),(33,some 0)],none),([(31,some 3),(34,some 0)],none),([(28,some 7)],none),([(35,some 1)],none)] mixed (by kernel_rfl) (by kernel_rfl) (by kernel_rfl) fun K hK=>dvp (fun σ wx hE hk=>zC ⟨Ext.refl _,hk.1⟩) (dvp (fun σ wx hE hk=>zC ⟨Ext.refl _,hk.1⟩) (dcp (fun v w'=>IsPoly w' v (a)) (fun _ _ _ _ hx h=>h.ext hx.toExt) (fun σ wx hE hk=>zH hb71 (CallK.of_ret (zFW (IsPoly.of_eq hk.1 (h6.ext hE)) (IsPoly.of_eq hk.2.1 (hx1.ext hE)) ha) fun v w2 hX hr=>⟨hX,hr.poly⟩) rfl) (dvp (fun σ wx hE hk=>zC ⟨Ext.refl _,hk.1⟩) (dvp (fun σ wx hE hk=>zC ⟨Ext.refl _,hk.1⟩) (dcp (fun v w'=>IsPoly w' v (b)) (fun _ _ _ _ hx h=>h.ext hx.toExt) (fun σ wx hE hk=>zH hb71 (CallK.of_ret (zFW (IsPoly.of_eq hk.1 (h7.ext hE)) (IsPoly.of_eq hk.2.1 (hy1.ext hE)) hb) fun v w2 hX hr=>⟨hX,hr.poly⟩) rfl) (dcp (fun v w'=>IsPoly w' v (s)) (fun _ _ _ _ hx h=>h.ext hx.toExt) (fun σ wx hE hk=>zH hb70 (CallK.of_ret (zHf hk.1 hk.2.1 hs) fun v w2 hX hr=>⟨hX,hr.poly⟩) rfl) (dvp (fun σ wx hE hk=>zC ⟨Ext.refl _,hk.1⟩) (dvp (fun σ wx hE hk=>zC ⟨Ext.refl _,hk.1⟩) ?_))))))))))))
   refine dvp (fun σ wx hE hk=>zC ⟨Ext.refl _,hk.1⟩) (dvp (fun σ wx hE hk=>zf (b:=1) (j+1) hk.1 rfl rfl (by omega) ⟨Ext.refl _,rfl⟩) ?_);refine dcp (fun v w'=>IsPoly w' v ([p.getD j 0])) (fun _ _ _ _ hx h=>h.ext hx.toExt) (fun σ wx hE hk=>runs_sliceLoHi zAB hk.1 hk.2.1 hk.2.2.1 (by omega) (by omega) (by omega) (by
    rw [show ((j+1:Nat):Int).toNat-((j:Nat):Int).toNat=1 from by omega,show ((j:Nat):Int).toNat=j from by omega];exact ⟨Ext.refl _,(hpP1.ext hE).one (by omega) (by omega)⟩)) ?_
   refine dcp (fun v w'=>IsPoly w' v (re2)) (fun _ _ _ _ hx h=>h.ext hx.toExt) (fun σ wx hE hk=>zH hb149 (CallK.of_ret (zJO hk.1 hk.2.1 hre2) fun v w2 hX hr=>⟨hX,hr.poly⟩) rfl) (dvp (fun σ wx hE hk=>zC ⟨Ext.refl _,hk.1⟩) (dvp (fun σ wx hE hk=>zC ⟨Ext.refl _,hk.1⟩) (dcp (fun v w'=>IsPoly w' v (e)) (fun _ _ _ _ hx h=>h.ext hx.toExt) (fun σ wx hE hk=>zH hb71 (CallK.of_ret (zFW (IsPoly.of_eq hk.1 (h6.ext hE)) (IsPoly.of_eq hk.2.1 (hy1.ext hE)) he) fun v w2 hX hr=>⟨hX,hr.poly⟩) rfl) (dvp (fun σ wx hE hk=>zC ⟨Ext.refl _,hk.1⟩) (dvp (fun σ wx hE hk=>zC ⟨Ext.refl _,hk.1⟩) (dcp (fun v w'=>IsPoly w' v (g)) (fun _ _ _ _ hx h=>h.ext hx.toExt) (fun σ wx hE hk=>zH hb71 (CallK.of_ret (zFW (IsPoly.of_eq hk.1 (h7.ext hE)) (IsPoly.of_eq hk.2.1 (hx1.ext hE)) hg) fun v w2 hX hr=>⟨hX,hr.poly⟩) rfl) (dcp (fun v w'=>IsPoly w' v (im2)) (fun _ _ _ _ hx h=>h.ext hx.toExt) (fun σ wx hE hk=>zH hb149 (CallK.of_ret (zJO hk.1 hk.2.1 him2) fun v w2 hX hr=>⟨hX,hr.poly⟩) rfl) (dcp (fun v w'=>IsPoly w' v (re2)) (fun _ _ _ _ hx h=>h.ext hx.toExt) (fun σ wx hE hk=>zS ⟨Ext.refl _,hk.1⟩) (dcp (fun v w'=>IsPoly w' v (im2)) (fun _ _ _ _ hx h=>h.ext hx.toExt) (fun σ wx hE hk=>zS ⟨Ext.refl _,hk.1⟩) (zAi (hK _ fun wq hE => ?_)))))))))))
   rintro _ rfl _ rfl v18 N18 _ rfl _ rfl v21 N21 v22 N22 _ rfl _ rfl _ rfl _ rfl v27 N27 v28 N28 _ rfl _ rfl v31 N31 _ rfl _ rfl v34 N34 v35 N35 v6 N6 v7 N7;refine zh ?_;replace E0:=E0.trans hE;clear hE;refine zR (zM (K5 [0,1,2,6,7,8] ?_));exact rI fun K=>K8 rfl (ag (rl K (zO (⟨rfl,j,⟨_,_,re2,im2,⟨rfl,rfl,rfl,rfl,rfl,rfl,rfl,rfl,rfl,rfl,rfl,congrArg (Value.int .i64) hw2,trivial⟩,by omega,E0,N6,N7,hA⟩,by omega⟩))))
end Go.Proofs.YtjiendlfobjanaaGreatDoor
namespace Go.Proofs.YtjiendlfobjanaaGreatDoor
open Go Go.RowKit Go.Proofs Tryz
variable {af:Array Edge} {cap i ix:Nat} {g:Option (Nat×Bool)} {p:Option Addr} {pos:String} {r:Option Nat} {t' ty:TypeId} {v:Value} {w w':World} {x y:Operand} {σ:Operand→Value}
def CRd (w:World) (p:Option Addr) (c:List Poly):Prop :=
 c=[]∨∃ b o cs,p=some ⟨b,o,none⟩∧Blk w b 25 cs∧o+c.length≤cs.length∧∀ i,i<c.length→∃ v,cs[o+i]? = some v∧IsPoly w v (c.getD i [])
def zAv (w:World) (v:Value) (c:List Poly):Prop:=∃ p cap,v = .slice p c.length cap∧c.length≤cap∧CRd w p c∧c.length≤8192
theorem CRd.ext {c:List Poly} (h:CRd w p c) (hx:Ext w w'):CRd w' p c:=by
 rcases h with h | ⟨b,o,cs,h1,h2,h3,h4⟩
 · exact .inl h
 · exact .inr ⟨b,o,cs,h1,h2.ext hx,h3,fun i hi=>let ⟨v,e1,e2⟩:=h4 i hi;⟨v,e1,e2.ext hx⟩⟩
theorem zAv.ext {c:List Poly} (h:zAv w v c) (hx:Ext w w'):zAv w' v c:=by
 obtain ⟨p,k,h1,h2,h3,h4⟩:=h;exact ⟨p,k,h1,h2,h3.ext hx,h4⟩
theorem CRd.at {c:List Poly} (h:CRd w p c) (hi:i<c.length):∃ b o cs v,p=some ⟨b,o,none⟩∧Blk w b 25 cs∧cs[o+i]? = some v∧IsPoly w v (c.getD i []):=by
 rcases h with h | ⟨b,o,cs,h1,h2,h3,h4⟩
 · subst h;simp at hi
 · obtain ⟨v,e1,e2⟩:=h4 i hi;exact ⟨b,o,cs,v,h1,h2,e1,e2⟩
theorem zHE:zAV prog 240 25 1:=by unfold zAV;exact ⟨by kernel_rfl,by kernel_rfl⟩
theorem zES:prog.underlying 240=some (.slice 25):=by kernel_rfl
theorem zLN:Plain prog 240:=by unfold Plain;exact ⟨by kernel_rfl,by kernel_rfl⟩
theorem zNL:(prog.info? 25).map (fun i=>(i.zero,i.size,i.bytes))=some (some (.slice none 0 0),1,24):=by kernel_rfl
theorem info25':(prog.info? 25).map (fun i=>(i.zero,i.size))=some (some (.slice none 0 0),1):=by kernel_rfl
theorem size321:(prog.info? 321).map (·.size)=some 2:=by kernel_rfl
theorem zHZ:Aggr prog 321 2:=by unfold Aggr;exact ⟨by kernel_rfl,by kernel_rfl⟩
theorem zero321:(prog.info? 321).bind (·.zero)=some (.agg #[.int .i64 0,.int .i64 0]):=by kernel_rfl
theorem under3':prog.underlying 3=some (.int .i64):=by kernel_rfl
theorem under321:prog.underlying 321=some (.array 2 3):=by kernel_rfl
section laws
variable {K:Value→World→Prop} {d:Option Tmp}
theorem zFU {i:Operand} {c:List Poly} {k:IntKind} (hP:CRd w p c) (hx:σ x = .slice p c.length cap) (hi:σ i = .int k (ix:Int)) (h1:ix<c.length) (hk:K (.pointer (p.map fun a=>a.add ix)) w):Runs prog r ⟨d,.indexAddr 240 x i,ty,pos,af,g⟩ σ w K:=by
 obtain ⟨b,o,cs,v,e1,h2,h3,h4⟩:=hP.at h1;subst e1;refine zG zHE hx hi (by omega) (by omega) ?_;rw [show o+((ix:Nat):Int).toNat*1=o+ix from by omega];simpa [zAa] using hk
theorem zGQ {c:List Poly} (hP:CRd w p c) (hi:i<c.length) (hx:σ x = .pointer (p.map fun a=>a.add i)) (hk:∀ v,IsPoly w v (c.getD i [])→K v w):Runs prog r ⟨d,.load 25 x,ty,pos,af,g⟩ σ w K:=by
 obtain ⟨b,o,cs,v,h1,h2,h3,h4⟩:=hP.at hi;rw [h1] at hx;exact zD (o:=o+i) zBK (by rw [hx];simp [zAa]) h2 h3 (hk v h4)
theorem run_equalIn_int3 (m:Nat) (a b:Int) (w:World):(Op.equalIn (m+1) 3 (.int .i64 a) (.int .i64 b)).run prog w = .ok (a==b) w:=by
 unfold Op.equalIn;simp [run_underlying under3']
theorem run_equal321 (a b c e:Int) (w:World):(Op.equal 321 (.agg #[.int .i64 a,.int .i64 b]) (.agg #[.int .i64 c,.int .i64 e])).run prog w = .ok (a==c&&b==e) w:=by
 obtain ⟨i3,hi3⟩:=Option.isSome_iff_exists.1 (show (prog.info? 3).isSome=true from by kernel_rfl);have h:=run_equalIn_array (P:=prog) w 9999 #[.int .i64 a,.int .i64 b] #[.int .i64 c,.int .i64 e] under321 hi3;show (Op.equalIn 10000 321 _ _).run prog w=_;rw [h,show prog.cellsOf 3=1 from by kernel_rfl];have hp:∀ (xs:Array Value) (i:Nat) (v:Value),xs[i]? = some v→(part 3 xs i).run prog w = .ok v w:=fun xs i v hv=>by
  simp [part,zAe.isAgg,hv]
 have he:∀ x y:Int,(Op.equalIn 9999 3 (.int .i64 x) (.int .i64 y)).run prog w = .ok (x==y) w:=fun x y=>run_equalIn_int3 9998 x y w;rw [show List.range 2=[0,1] from rfl];have p1:=hp #[.int .i64 a,.int .i64 b] 0 (.int .i64 a) rfl;have p2:=hp #[.int .i64 a,.int .i64 b] 1 (.int .i64 b) rfl;have p3:=hp #[.int .i64 c,.int .i64 e] 0 (.int .i64 c) rfl;have p4:=hp #[.int .i64 c,.int .i64 e] 1 (.int .i64 e) rfl;simp only [Op.eqItems,Sem.run_bind,Nat.zero_mul,Nat.one_mul,p1,p2,p3,p4,Result.andThen_ok,he];have e1:=he a c;have e2:=he b e;cases h1:a==c<;>cases h2:b==e<;>rw [h1] at e1<;>rw [h2] at e2<;>simp [p2,p4,e1,e2]
theorem zGI {a b c e:Int} (q:Bool) (hx:σ x = .agg #[.int .i64 a,.int .i64 b]) (hy:σ y = .agg #[.int .i64 c,.int .i64 e]) (hq:(a==c&&b==e)=q) (hk:K (.bool q) w):Runs prog r ⟨d,.binOp .eql 321 x y t',ty,pos,af,g⟩ σ w K:=by
 refine zo (fun _ e=>by cases e) ?_ hk;have hm:prog.eqGuardType prog.depth 321=false:=by kernel_rfl
 simp [execOp,binOp,hx,hy,run_eqGuard_agg,hm,run_equal321,hq]
end laws
end Go.Proofs.YtjiendlfobjanaaGreatDoor
namespace Go.Proofs.YtjiendlfobjanaaGreatDoor
open Go Go.RowKit Go.Proofs Tryz
set_option maxRecDepth 10000
set_option maxHeartbeats 2000000
attribute [local irreducible] Runs WPE CallK Ret
variable {bx i:Nat} {cv u v:Value} {f:FuncId} {w w':World}
theorem drop_consI {l:List Int} (h:i<l.length):l.drop i=l.getD i 0 :: l.drop (i+1):=by
 rw [List.drop_eq_getElem_cons h];simp [h]
theorem zEJ {α β:Type} {f:α→Option β}:∀ {l:List α} {r:List β},mapO f l=some r→r.length=l.length
 | [],r,h=>by cases h;rfl
 | x :: l,r,h=>by
  unfold mapO at h;obtain ⟨y,_,h⟩:=bind_some h;obtain ⟨r',hr,h⟩:=bind_some h;cases h;simp [zEJ hr]
theorem zLf {α β:Type} {f:α→Option β} (a:α) (b:β):∀ {l:List α} {r:List β} {i:Nat},mapO f l=some r→i<l.length→f (l.getD i a)=some (r.getD i b)
 | [],r,i,h,hi=>by simp at hi
 | x :: l,r,i,h,hi=>by
  unfold mapO at h;obtain ⟨y,hy,h⟩:=bind_some h;obtain ⟨r',hr,h⟩:=bind_some h;cases h;cases i with
  | zero=>simpa using hy
  | succ i=>simpa using zLf a b hr (by simpa using hi)
theorem zLV {k:Value} {c:List Poly} {signs:List Int} (hc:zAv w cv c) (hf:zAs prog f) (hlen:signs.length=c.length) (hsig:∀ i,i<c.length→∀ (w':World) (v:Value),Ext w w'→IsPoly w' v (c.getD i [])→Ret prog f #[v,k] w' (fun u _=>u = .int .i64 (signs.getD i 0))):Ret prog 172 #[cv,.func (.func f) #[] #[k]] w (fun u _=>u = .int .i64 (flipL signs 0 0)):=by
 obtain ⟨cp,cc,rfl,hcc,hC,hcl⟩:=hc;have E0:Ext w w:=Ext.refl w;refine J0 38 func172 rfl (rj fun K=>ag (rm [0,1] K ?_));refine rj fun K=>ag (ag (rm [0,1,5,6] K ?_));refine zA (rJ fun K=>K1 (zI zHE rfl (mv (rm [1,5,6,11,12,13] K ?_))));refine zF (zg (X:=Nat) (fun i ρ w'=>∃ n last,Keep ρ [(1,.func (.func f) #[] #[k]),(5,.int .i64 n),(6,.int .i64 last),(11,.slice cp c.length cc),(12,.int .i64 (c.length:Nat)),(13,.int .i64 (i:Nat))]∧i≤c.length∧Ext w w'∧0≤n∧n≤i∧flipL (signs.drop i) last n=flipL signs 0 0) (fun i=>c.length-i) 0 ⟨0,0,(kp rfl),Nat.zero_le _,E0,Int.le_refl _,Int.le_refl _,rfl⟩ ?_);clear E0;rintro i ρ1 w1 ⟨n,last,hk,hil,E0,hn0,hni,hfl0⟩;refine wpe_k _ hk ?_;clear hk ρ1;refine rj fun K=>K8 rfl (rm [1,5,6,11,12,13,14] K ?_);refine zA ?_;refine K0 rfl ?_ ?_<;>intro hc
 · have hlt:i<c.length:=t_lt hc;clear hc;have hC1:=hC.ext E0;rw [drop_consI (by omega),flipL] at hfl0;refine sk (zA (zF (rj fun K=>K1 (zFU hC1 rfl rfl hlt (K1 (zGQ hC1 hlt rfl fun v16 N16=>ag (rm [1,5,6,8,11,12,13] K ?_)))))));refine rJ fun K=>mv (K1 (zBm rfl hf (CallK.of_ret (hsig i hlt _ v16 E0 N16) fun v19 w2 hE hr => ?_)));subst hr;replace E0:=E0.trans hE;clear hE N16 hC1;refine ag (rm [1,5,6,9,11,12,13] K ?_);refine zA (rJ fun K=>K8 rfl (rm [1,5,6,9,11,12,13,21] K ?_));refine K0 rfl ?_ ?_<;>intro hc
   · have hs0:(signs.getD i 0)=0:=eq_of_beq hc;clear hc;rw [if_pos hs0] at hfl0;have hfl:=hfl0;exact zY (zx (zL (zM (K6 fun K=>K8 rfl (mv (rl K (zO (⟨rfl,i+1,⟨_,_,⟨rfl,rfl,rfl,rfl,rfl,rfl,rfl,rfl,rfl,rfl,rfl,congrArg (Value.int .i64) (zr (by omega)),trivial⟩,by omega,E0,by omega,by omega,hfl⟩,by omega⟩))))))))
   · have hs0:(signs.getD i 0)≠0:=beq_eq_false_iff_ne.1 hc;clear hc;rw [if_neg hs0] at hfl0;refine sk (zA (rJ fun K=>mv (K1 (zT (cs := #[.int .i64 last,.int .i64 (signs.getD i 0)]) (by kernel_rfl) ?_))));refine K1 (zV zero321 fun b1 w1 hb hE hB1 hs => ?_);have hgb1:w.heap.size≤b1:=by rw [hb];exact E0.size
     replace E0:=E0.trans hE;clear hE hs hb;refine K1 (zc size321 rfl hB1 rfl (Nat.le_of_ble_eq_true rfl) (by decide) rfl fun w2 hU hN => ?_);replace E0:=E0.upd hU hgb1;clear hB1;have hB1:=hN;clear hN hU;refine rm [1,5,6,9,10,11,12,13] K ?_;refine zA ?_;rcases (show (last=1∧(signs.getD i 0) = -1)∨(¬ (last=1∧(signs.getD i 0) = -1)∧(last = -1∧(signs.getD i 0)=1))∨(¬ (last=1∧(signs.getD i 0) = -1)∧¬ (last = -1∧(signs.getD i 0)=1)) from by omega) with h1 | ⟨h1,h2⟩ | ⟨h1,h2⟩
     · have hfl:flipL (signs.drop (i+1)) (signs.getD i 0) (n+1)=flipL signs 0 0:=by rw [← hfl0,if_pos (Or.inl h1)]
       refine K6 fun K=>K1 (zX zHZ rfl hB1 (Nat.le_of_ble_eq_true rfl) (K1 (zT (cs := #[.int .i64 1,.int .i64 (-1)]) (by kernel_rfl) ?_)));refine K1 (zGI true rfl rfl (by rw [h1.1,h1.2];rfl) ?_);refine mv (K3 (K3 (K3 (pk rfl (rs [1,5,6,9,11,12,13,29,30,31,32] K ?_)))));refine wct rfl (rI fun K=>K1 (zJ (v := .int .i64 (n+1)) rfl rfl (congrArg (fun z=>some (Value.int .i64 z)) (zm (by omega) (by omega))) (ag (rs [1,5,6,9,11,12,13,29,30,31] K ?_))));refine rI fun K=>ag (rl K (zR (zM (K5 [1,5,6,11,12,13,29,30,31] ?_))));exact K6 fun K=>K8 rfl (mv (rl K (zO (⟨rfl,i+1,⟨_,_,⟨rfl,rfl,rfl,rfl,rfl,rfl,rfl,rfl,rfl,rfl,rfl,congrArg (Value.int .i64) (zr (by omega)),trivial⟩,by omega,E0,by omega,by omega,hfl⟩,by omega⟩))))
     · have hfl:flipL (signs.drop (i+1)) (signs.getD i 0) (n+1)=flipL signs 0 0:=by rw [← hfl0,if_pos (Or.inr h2)]
       refine K6 fun K=>K1 (zX zHZ rfl hB1 (Nat.le_of_ble_eq_true rfl) (K1 (zT (cs := #[.int .i64 1,.int .i64 (-1)]) (by kernel_rfl) ?_)));refine K1 (zGI false rfl rfl (by rw [h2.1];rfl) ?_);refine mv (K2 (zX zHZ rfl hB1 (Nat.le_of_ble_eq_true rfl) (K2 (zT (cs := #[.int .i64 (-1),.int .i64 1]) (by kernel_rfl) ?_))));refine K2 (zGI true rfl rfl (by rw [h2.1,h2.2];rfl) ?_);refine pk rfl (rs [1,5,6,9,11,12,13,29,30,31,32] K ?_);refine wct rfl (rI fun K=>K1 (zJ (v := .int .i64 (n+1)) rfl rfl (congrArg (fun z=>some (Value.int .i64 z)) (zm (by omega) (by omega))) (ag (rs [1,5,6,9,11,12,13,29,30,31] K ?_))));refine rI fun K=>ag (rl K (zR (zM (K5 [1,5,6,11,12,13,29,30,31] ?_))));exact K6 fun K=>K8 rfl (mv (rl K (zO (⟨rfl,i+1,⟨_,_,⟨rfl,rfl,rfl,rfl,rfl,rfl,rfl,rfl,rfl,rfl,rfl,congrArg (Value.int .i64) (zr (by omega)),trivial⟩,by omega,E0,by omega,by omega,hfl⟩,by omega⟩))))
     · have hfl:flipL (signs.drop (i+1)) (signs.getD i 0) n=flipL signs 0 0:=by rw [← hfl0,if_neg (by rintro (a | a);exact h1 a;exact h2 a)]
       refine K6 fun K=>K1 (zX zHZ rfl hB1 (Nat.le_of_ble_eq_true rfl) (K1 (zT (cs := #[.int .i64 1,.int .i64 (-1)]) (by kernel_rfl) ?_)));refine K1 (zGI false rfl rfl (by rw [Bool.eq_false_iff];intro e;rw [Bool.and_eq_true,beq_iff_eq,beq_iff_eq] at e;exact h1 e) ?_);refine mv (K2 (zX zHZ rfl hB1 (Nat.le_of_ble_eq_true rfl) (K2 (zT (cs := #[.int .i64 (-1),.int .i64 1]) (by kernel_rfl) ?_))));refine K2 (zGI false rfl rfl (by rw [Bool.eq_false_iff];intro e;rw [Bool.and_eq_true,beq_iff_eq,beq_iff_eq] at e;exact h2 e) ?_);refine pk rfl (rs [1,5,6,9,11,12,13,29,30,31,32] K ?_);refine wcf rfl (sk (rI fun K=>ag (rl K (zR (zM (K5 [1,5,6,11,12,13,29,30,31] ?_))))));exact K6 fun K=>K8 rfl (mv (rl K (zO (⟨rfl,i+1,⟨_,_,⟨rfl,rfl,rfl,rfl,rfl,rfl,rfl,rfl,rfl,rfl,rfl,congrArg (Value.int .i64) (zr (by omega)),trivial⟩,by omega,E0,by omega,by omega,hfl⟩,by omega⟩))))
 · have hge:=f_lt hc;obtain rfl:i=c.length:=by omega
   clear hc;rw [List.drop_eq_nil_of_le (by omega),flipL] at hfl0;refine zY (zx (zl (zL (zM (rJ fun K=>ag (rm [1,4,5,6,11,12,13] K ?_))))));exact zE (en rfl E0 (congrArg (Value.int .i64) hfl0))
theorem zLP {c:List Poly} {x:Rat} {s:Int} (hc:zAv w cv c) (hN:NumAt bx x w) (h:zGk x c=some s):Ret prog 172 #[cv,.func (.func 350) #[] #[.pointer (some ⟨bx,0,none⟩)]] w (fun u _=>u = .int .i64 s):=by
 obtain ⟨l,hl,rfl⟩:=map_some h;refine zLV hc hb350 (zEJ hl) fun i hi w' v hE hv => ?_;obtain ⟨y,hy,hs⟩:=map_some (zLf [] 0 hl hi);rw [← hs];exact at1_ok hv (hN.ext hE) hy
theorem zDI {c:List Poly} {m:Bool} {bm:Nat} (hc:zAv w cv c) (hB:Blk w bm 4 [.bool m]) (h0:∀ i,i<c.length→c.getD i []≠[]):Ret prog 172 #[cv,.func (.func 258) #[] #[.pointer (some ⟨bm,0,none⟩)]] w (fun u _=>u = .int .i64 (zBa m c)):=by
 refine zLV (signs:=c.map (endS m)) hc hb258 (by simp) fun i hi w' v hE hv => ?_;rw [show (c.map (endS m)).getD i 0=endS m (c.getD i []) from by simp [hi]];exact ends1_ok hv (h0 i hi) (hB.ext hE)
def AtF (x:Rat) (v:Value) (w:World):Prop:=∃ bx,v = .func (.func 350) #[] #[.pointer (some ⟨bx,0,none⟩)]∧NumAt bx x w
theorem AtF.ext {x:Rat} (h:AtF x v w) (hx:Ext w w'):AtF x v w':=by
 obtain ⟨bx,e,hN⟩:=h;exact ⟨bx,e,hN.ext hx⟩
theorem between_ok {c:List Poly} {x y:Rat} {a b:Int} (hc:zAv w cv c) (hx:IsNum w u x) (hy:IsNum w v y) (ha:zGk x c=some a) (hb:zGk y c=some b):Ret prog 260 #[cv,u,v] w (fun r _=>r = .int .i64 (IntKind.i64.wrap (a-b))):=by
 have hx0:=hx;have hy0:=hy;obtain ⟨xn,xd,rfl,hxn,hxd⟩:=hx0;obtain ⟨yn,yd,rfl,hyn,hyd⟩:=hy0;refine J0 16 func260 rfl (rj fun K => ?_);refine K1 (zt fun b1 w1 hb hE hB1 hs => ?_);have hgb1:w.heap.size≤b1:=by rw [hb];exact E0.size
 replace E0:=E0.trans hE;replace hc:=hc.ext hE;replace hx:=hx.ext hE;replace hy:=hy.ext hE;clear hE hs hb;refine K1 (zt fun b2 w2 hb hE hB2 hs => ?_);have hgb2:w.heap.size≤b2:=by rw [hb];exact E0.size
 have ne_b1_b2:b1≠b2:=by have:=hB1.lt;omega
 replace E0:=E0.trans hE;replace hc:=hc.ext hE;replace hx:=hx.ext hE;replace hy:=hy.ext hE;replace hB1:=hB1.ext hE;clear hE hs hb;refine ag (rm [0,4,5] K ?_);refine zA (zAK [([(0,none)],none),([(4,none)],none),([(8,some 0)],none),([(7,some 2),(9,some 0)],none),([(0,none)],none),([(5,none)],none),([(12,some 0)],none),([(11,some 2),(13,some 0)],none),([(10,some 4),(14,some 0)],none),([(15,some 0)],none)] mixed (by kernel_rfl) (by kernel_rfl) (by kernel_rfl) fun K hK=>dvp (fun σ wx hE hk=>zC ⟨Ext.refl _,hk.1⟩) (dvp (fun σ wx hE hk=>zX zy hk.1 (hB1.ext hE) (Nat.le_of_ble_eq_true rfl) ⟨Ext.refl _,rfl⟩) (dcp (AtF x) (fun _ _ _ _ hx h=>h.ext hx.toExt) (fun σ wx hE hk=>zH hb315 (CallK.of_ret (at_ok (IsNum.of_eq hk.1 (hx.ext hE))) fun v w2 hX hr=>⟨hX,hr⟩) rfl) ?_)));refine dcp (fun v _=>v = .int .i64 a) (fun _ _ _ _ _ h=>h) (fun σ wx hE hk=>(by obtain ⟨bx,e,hN⟩:=hk.2.1;exact zH hb172 (CallK.eq2 hk.1 e (CallK.of_ret (zLP (hc.ext hE) hN ha) fun v w2 hX hr=>⟨hX,hr⟩)) rfl)) ?_;refine dvp (fun σ wx hE hk=>zC ⟨Ext.refl _,hk.1⟩) (dvp (fun σ wx hE hk=>zX zy hk.1 (hB2.ext hE) (Nat.le_of_ble_eq_true rfl) ⟨Ext.refl _,rfl⟩) (dcp (AtF y) (fun _ _ _ _ hx h=>h.ext hx.toExt) (fun σ wx hE hk=>zH hb315 (CallK.of_ret (at_ok (IsNum.of_eq hk.1 (hy.ext hE))) fun v w2 hX hr=>⟨hX,hr⟩) rfl) ?_))
 refine dcp (fun v _=>v = .int .i64 b) (fun _ _ _ _ _ h=>h) (fun σ wx hE hk=>(by obtain ⟨bx,e,hN⟩:=hk.2.1;exact zH hb172 (CallK.eq2 hk.1 e (CallK.of_ret (zLP (hc.ext hE) hN hb) fun v w2 hX hr=>⟨hX,hr⟩)) rfl)) ?_;refine dvp (fun σ wx hE hk=>zJ hk.1 hk.2.1 rfl ⟨Ext.refl _,rfl⟩) (dvp (fun σ wx hE hk=>zS ⟨Ext.refl _,hk.1⟩) (zAi (hK _ fun wq hE => ?_)));rintro _ rfl _ rfl v9 N9 v10 N10 _ rfl _ rfl v13 N13 v14 N14 _ rfl _ rfl;refine zh ?_;replace E0:=E0.trans hE;replace hc:=hc.ext hE;replace hx:=hx.ext hE;replace hy:=hy.ext hE;replace hB1:=hB1.ext hE;replace hB2:=hB2.ext hE;clear hE;refine zM (K5 [6] ?_);exact zE (en rfl E0 rfl)
end Go.Proofs.YtjiendlfobjanaaGreatDoor
namespace Go.Proofs.YtjiendlfobjanaaGreatDoor
open Go Go.RowKit Go.Proofs Tryz
variable {T ty:TypeId} {af:Array Edge} {b b2 c:Nat} {cs:List Value} {g:Option (Nat×Bool)} {l:List Rat} {pos:String} {q:Rat} {r:Option Nat} {u v:Value} {w w' w0:World} {x y:Operand} {σ:Operand→Value}
theorem IsNum.updT (h:IsNum w v q) (hu:Upd b w w') (hb:Blk w b T cs) (hT:T≠164):IsNum w' v q:=h.upd hu hb hT
theorem IsPoly.updT (h:IsPoly w v l) (hu:Upd b w w') (hb:Blk w b T cs) (h1:T≠37) (h2:T≠164):IsPoly w' v l:=by
 obtain ⟨p,c,e1,e2,e3,e4⟩:=h;refine ⟨p,c,e1,e2,?_,e4⟩;rcases e3 with e3 | ⟨b',o,cs',g1,g2,g3,g4⟩
 · exact .inl e3
 · exact .inr ⟨b',o,cs',g1,g2.upd hu (fun e=>by subst e;exact h1 (hb.inj g2).1),g3,fun i hi=>(g4 i hi).upd hu hb h2⟩
def KeepT (w w':World):Prop:=∀ b T cs,(T=37∨T=164∨T=67)→Blk w b T cs→Blk w' b T cs
theorem KeepT.trans {a b c:World} (h:KeepT a b) (k:KeepT b c):KeepT a c:=fun i T cs hT hb=>k i T cs hT (h i T cs hT hb)
theorem KeepT.ext (h:Ext w w'):KeepT w w':=fun _ _ _ _ hb=>hb.ext h
theorem KeepT.oth {l:Nat} (h:OthX l w w'):KeepT w w':=fun _ _ _ _ hb=>hb.oth h
theorem KeepT.upd (h:Upd b w w') (hb:Blk w b T cs) (h1:T≠37) (h2:T≠164) (h3:T≠67):KeepT w w':=fun c T' cs' hT hc=>hc.upd h fun e=>by
 subst e;have:=(hb.inj hc).1;subst this;rcases hT with e | e | e
 · exact h1 e
 · exact h2 e
 · exact h3 e
theorem IsPoly.keep (h:IsPoly w v l) (hk:KeepT w w'):IsPoly w' v l:=by
 have kW:∀ {u:Value} {n:Nat},IsW w u n→IsW w' u n:=fun h=>by
  obtain ⟨p,ds,cap,h1,h2,h3,h4,h5⟩:=h;refine ⟨p,ds,cap,h1,h2,fun i hi => ?_,h4,h5⟩;obtain ⟨b,o,cs,e1,e2,e3⟩:=h3 i hi;exact ⟨b,o,cs,e1,hk _ _ _ (.inr (.inl rfl)) e2,e3⟩
 have kN:∀ {u:Value} {q:Rat},IsNum w u q→IsNum w' u q:=fun h=>by
  obtain ⟨n,d,e,h1,h2⟩:=h;exact ⟨n,d,e,kW h1,kW h2⟩
 obtain ⟨p,c,e1,e2,e3,e4⟩:=h;refine ⟨p,c,e1,e2,?_,e4⟩;rcases e3 with e3 | ⟨b',o,cs',g1,g2,g3,g4⟩
 · exact .inl e3
 · exact .inr ⟨b',o,cs',g1,hk _ _ _ (.inl rfl) g2,g3,fun i hi=>kN (g4 i hi)⟩
def AccC (sz:Nat) (w:World) (v:Value) (A:List Poly):Prop :=
 ∃ p c,v = .slice p A.length c∧A.length≤c∧((A=[]∧p=none∧c=0)∨∃ b cs,p=some ⟨b,0,none⟩∧sz≤b∧Blk w b 25 cs∧cs.length=c∧∀ i,i<A.length→∃ u,cs[i]? = some u∧IsPoly w u (A.getD i []))
theorem AccC.nil {sz:Nat}:AccC sz w (.slice none 0 0) []:=⟨none,0,rfl,Nat.le_refl _,.inl ⟨rfl,rfl,rfl⟩⟩
theorem AccC.ext {sz:Nat} {A:List Poly} (h:AccC sz w v A) (hx:Ext w w'):AccC sz w' v A:=by
 obtain ⟨p,c,h1,h2,h3⟩:=h;refine ⟨p,c,h1,h2,?_⟩;rcases h3 with h3 | ⟨b,cs,e1,e2,e3,e4,e5⟩
 · exact .inl h3
 · exact .inr ⟨b,cs,e1,e2,e3.ext hx,e4,fun i hi=>let ⟨u,g1,g2⟩:=e5 i hi;⟨u,g1,g2.ext hx⟩⟩
theorem AccC.le {sz:Nat} {A:List Poly} (h:AccC sz w v A) (hx:BlkLe w w'):AccC sz w' v A:=by
 obtain ⟨p,c,h1,h2,h3⟩:=h;refine ⟨p,c,h1,h2,?_⟩;rcases h3 with h3 | ⟨b,cs,e1,e2,e3,e4,e5⟩
 · exact .inl h3
 · exact .inr ⟨b,cs,e1,e2,hx _ _ _ e3,e4,fun i hi=>let ⟨u,g1,g2⟩:=e5 i hi;⟨u,g1,g2.le hx⟩⟩
theorem AccC.upd {sz:Nat} {A:List Poly} (h:AccC sz w v A) (hu:Upd b w w') (hb:Blk w b T cs) (h1:T≠37) (h2:T≠164) (h3:T≠25):AccC sz w' v A:=by
 obtain ⟨p,c,g1,g2,g3⟩:=h;refine ⟨p,c,g1,g2,?_⟩;rcases g3 with g3 | ⟨b',cs',e1,e2,e3,e4,e5⟩
 · exact .inl g3
 · exact .inr ⟨b',cs',e1,e2,e3.upd hu (fun e=>by subst e;exact h3 (hb.inj e3).1),e4,fun i hi=>let ⟨u,k1,k2⟩:=e5 i hi;⟨u,k1,k2.updT hu hb h1 h2⟩⟩
theorem AccC.chain {sz:Nat} {A:List Poly} (h:AccC sz w v A) (hl:A.length≤8192):zAv w v A:=by
 obtain ⟨p,c,h1,h2,h3⟩:=h;rcases h3 with ⟨e1,e2,e3⟩ | ⟨b,cs,e1,e2,e3,e4,e5⟩
 · exact ⟨p,c,h1,h2,.inl e1,hl⟩
 · exact ⟨p,c,h1,h2,.inr ⟨b,0,cs,e1,e3,by omega,fun i hi=>by rw [Nat.zero_add];exact e5 i hi⟩,hl⟩
def AppC (sz:Nat) (w w':World):Prop:=Ext w w'∨∃ b cs,sz≤b∧Blk w b 25 cs∧Upd b w w'
theorem AppC.ext {sz:Nat} (h:AppC sz w w') (hs:w0.heap.size≤sz) (hE:Ext w0 w):Ext w0 w':=by
 rcases h with h | ⟨b,cs,h1,h2,h3⟩
 · exact hE.trans h
 · exact hE.upd h3 (by omega)
theorem AppC.blk {sz:Nat} (h:AppC sz w w') (hB:Blk w c T cs) (hT:T≠25):Blk w' c T cs:=by
 rcases h with h | ⟨b,cs',h1,h2,h3⟩
 · exact hB.ext h
 · exact hB.upd h3 (fun e=>by subst e;exact hT (hB.inj h2).1)
theorem AppC.keep {sz:Nat} (h:AppC sz w w'):KeepT w w':=by
 rcases h with h | ⟨b,cs',h1,h2,h3⟩
 · exact KeepT.ext h
 · exact KeepT.upd h3 h2 (by decide) (by decide) (by decide)
theorem AppC.nc {sz:Nat} (h:AppC sz w w'):NC w w':=by
 rcases h with h | ⟨b,cs',h1,h2,h3⟩
 · exact NC.ext h
 · exact NC.upd h3 h2
theorem zEZ {K:Value→World→Prop} {d:Option Tmp} {sz:Nat} {A:List Poly} {q:Poly} 
 (hx:AccC sz w (σ x) A) (hy:σ y = .slice (some ⟨b2,0,none⟩) 1 1) (hB2:Blk w b2 25 [u]) (hq:IsPoly w u q) (hA:A.length<8192) (hsz:sz≤w.heap.size)
 (hk:∀ v w',AppC sz w w'→AccC sz w' v (A++[q])→K v w') :
 Runs prog r ⟨d,.call { callee := .builtin .append,args := #[x,y],argTypes := #[240,240] },ty,pos,af,g⟩ σ w K:=by
 obtain ⟨p,c,h1,h2,h3⟩:=hx;have hok:[u].all zAp=true:=by obtain ⟨p',c',rfl,_⟩:=hq;rfl
 have getl:∀ i,i<A.length→(A++[q]).getD i []=A.getD i []:=fun i hi=>by simp [List.getElem?_append_left hi]
 have getr:(A++[q]).getD A.length []=q:=by simp
 by_cases hc:A.length+1≤c
 · rcases h3 with ⟨e1,e2,e3⟩ | ⟨b,cs,e1,e2,e3,e4,e5⟩
   · omega
   · subst e1;refine zAg (n:=1) zES zES zNL h1 hy e3 (Cells.blk hB2) rfl hc (by omega) hok fun w' hU hN=>hk _ w' (.inr ⟨b,cs,e2,e3,hU⟩) ?_;rw [Nat.zero_add,Nat.mul_one] at hN;refine ⟨_,c,by simp,by simpa using hc,.inr ⟨b,_,rfl,e2,hN,by rw [zAh];exact e4,fun i hi => ?_⟩⟩;show ∃ v,(cs.set A.length u)[i]? = some v∧_;by_cases hi':i<A.length
     · obtain ⟨v,g1,g2⟩:=e5 i hi';exact ⟨v,by rw [List.getElem?_set_ne (by omega)];exact g1,by rw [getl i hi'];exact g2.updT hU e3 (by decide) (by decide)⟩
     · have:i=A.length:=by simp at hi;omega
       subst this;exact ⟨u,by rw [List.getElem?_set_self (by omega)],by rw [getr];exact hq.updT hU e3 (by decide) (by decide)⟩
 · have hnew:=zAS (A.length+1) c;have hold:∃ old,Cells w p 25 old∧old.length=A.length*1∧∀ i,i<A.length→∃ v,old[i]? = some v∧IsPoly w v (A.getD i []):=by
    rcases h3 with ⟨e1,e2,e3⟩ | ⟨b,cs,e1,e2,e3,e4,e5⟩
    · subst e1;exact ⟨[],.inl rfl,rfl,fun i hi=>by simp at hi⟩
    · refine ⟨cs.take A.length,.inr ⟨b,0,cs,e1,e3,by simp⟩,by simp;omega,fun i hi => ?_⟩;obtain ⟨v,g1,g2⟩:=e5 i hi;exact ⟨v,by rw [List.getElem?_take,if_pos hi];exact g1,g2⟩
   obtain ⟨old,o1,o2,o3⟩:=hold;refine zAO zES zES zNL rfl (by decide) h1 hy o1 o2 (Cells.blk hB2) rfl (by omega) (by omega) fun w' rest c' g1 hE hB g2 _=>hk _ w' (.inl hE) ?_;have hrl:rest.length=(c'-(A.length+1))*1:=by rw [g2];simp [Builtin.zeroCells,Value.cells]
   refine ⟨_,c',by simp,by simpa using g1,.inr ⟨w.heap.size,_,rfl,hsz,hB,by simp [o2,hrl];omega,fun i hi => ?_⟩⟩;by_cases hi':i<A.length
   · obtain ⟨v,k1,k2⟩:=o3 i hi';exact ⟨v,by rw [List.append_assoc,List.getElem?_append_left (by omega)];exact k1,by rw [getl i hi'];exact k2.ext hE⟩
   · have:i=A.length:=by simp at hi;omega
     subst this;exact ⟨u,by rw [List.append_assoc,List.getElem?_append_right (by omega)];simp [o2],by rw [getr];exact hq.ext hE⟩
end Go.Proofs.YtjiendlfobjanaaGreatDoor
namespace Go.Proofs.YtjiendlfobjanaaGreatDoor
open Go Go.RowKit Go.Proofs Tryz
set_option maxRecDepth 10000
set_option maxHeartbeats 2000000
attribute [local irreducible] Runs WPE CallK Ret
variable {b1 b2 i:Nat}
theorem zKy:Plain prog 67:=by unfold Plain;exact ⟨by kernel_rfl,by kernel_rfl⟩
theorem size67:(prog.info? 67).map (·.size)=some 1:=by kernel_rfl
theorem size240:(prog.info? 240).map (·.size)=some 1:=by kernel_rfl
theorem zero67:(prog.info? 67).bind (·.zero)=some .nilFunc:=by kernel_rfl
theorem zero240:(prog.info? 240).bind (·.zero)=some (.slice none 0 0):=by kernel_rfl
theorem pscale_length {p s:Poly} {x:Rat} (h:zFt p x=some s):s.length≤p.length:=by
 obtain ⟨L,h1,rfl⟩:=map_some h;exact Nat.le_trans (zCF L) (Nat.le_of_eq (zEJ h1))
theorem psmall_length {p s:Poly} (h:zGC p=some s):s.length≤p.length:=by
 unfold zGC at h;split at h
 · cases h;simp
 · obtain ⟨c,_,h⟩:=bind_some h;exact Nat.le_trans (pscale_length h) (zCF p)
theorem zGh:∀ {f:Nat} {p q:Poly} {c:List Poly},zHk f p q=some c→c.length≤f∧∀ i,i<c.length→c.getD i []≠[]
 | 0,p,q,c,h=>by cases h
 | f+1,p,q,c,h=>by
  unfold zHk at h;split at h
  · cases h;exact ⟨Nat.zero_le _,fun i hi=>by simp at hi⟩
  · rename_i hp;split at h
    · cases h; exact ⟨by simp, fun i hi => by have : i = 0 := by simp at hi; omega
                                              subst this;simpa using hp⟩
    · obtain ⟨r,_,h⟩:=bind_some h;obtain ⟨s,_,h⟩:=bind_some h;obtain ⟨t,_,h⟩:=bind_some h;obtain ⟨l,hl,h⟩:=bind_some h;cases h;obtain ⟨g1,g2⟩:=zGh hl;refine ⟨by simp;omega,fun i hi => ?_⟩;cases i with
      | zero=>simpa using hp
      | succ i=>simpa using g2 i (by simpa using hi)
theorem zDV {p q:Poly} {c:List Poly} (h:chain p q=some c):c.length≤q.length+2∧∀ i,i<c.length→c.getD i []≠[]:=by
 obtain ⟨p',_,h⟩:=bind_some h;obtain ⟨q',hq,h⟩:=bind_some h;obtain ⟨g1,g2⟩:=zGh h;have:=psmall_length hq;exact ⟨by omega,g2⟩
def encP (c:List Poly) (i:Nat) (args:Array Value) (w:World):Prop:=∃ v,args = #[v]∧IsPoly w v (c.getD i [])
theorem drop_head {c l:List Poly} {P:Poly} (h:c.drop i=P :: l):i<c.length∧c.getD i []=P∧c.drop (i+1)=l:=by
 have hi:i<c.length:=by
  rcases Nat.lt_or_ge i c.length with h1 | h1
  · exact h1
  · rw [List.drop_eq_nil_of_le h1] at h;cases h
 rw [List.drop_eq_getElem_cons hi] at h;have h1:=List.cons.inj h;exact ⟨hi,by simp [hi,h1.1],h1.2⟩
def SmF:Value := .func (.func 313) #[] #[]
theorem sturm2_ok {p q:Poly} {c:List Poly} (h:chain p q=some c) (l:Nat) (J:Nat→World→Prop) (hJe:∀ i w1 w2,J i w1→Ext w1 w2→J i w2) (hy:∀ i,i<c.length→∀ args w1,J i w1→encP c i args w1→zIq prog l args w1 (fun u w2=>u = .bool true∧J (i+1) w2∧KeepT w1 w2)) (w:World) (h0:J 0 w) {b3:Nat} {vp vq:Value} (hb1:Blk w b1 67 [SmF]) (hb2:Blk w b2 25 [vp]) (hb3:Blk w b3 25 [vq]) (hp:IsPoly w vp p) (hq:IsPoly w vq q):CallK prog 314 #[.func (.yield l) #[] #[],.pointer (some ⟨b1,0,none⟩),.pointer (some ⟨b2,0,none⟩),.pointer (some ⟨b3,0,none⟩)] w (fun _ w'=>J c.length w'):=by
 obtain ⟨p1,h1,h⟩:=bind_some h;obtain ⟨q1,h2,h3⟩:=bind_some h
 refine zCu 37 func314 rfl rfl (Nat.le_of_ble_eq_true rfl) (zA (zAK [([(1,none)],none),([(2,none)],none),([(9,some 1),(10,some 0)],none),([(1,none)],none),([(3,none)],none),([(12,some 1),(13,some 0)],none),([(11,some 3)],none),([(14,some 1)],none)] mixed (by kernel_rfl) (by kernel_rfl) (by kernel_rfl) fun K hK=>dcp (fun v _=>v=SmF) (fun _ _ _ _ _ h=>h) (fun σ wx hE hk=>zD zKy hk.1 (hb1.ext hE) rfl ⟨Ext.refl _,rfl⟩) (dcp (fun v w'=>IsPoly w' v (p)) (fun _ _ _ _ hx h=>h.ext hx.toExt) (fun σ wx hE hk=>zD zBK hk.1 (hb2.ext hE) rfl ⟨Ext.refl _,hp.ext hE⟩) (dcp (fun v w'=>IsPoly w' v (p1)) (fun _ _ _ _ hx h=>h.ext hx.toExt) (fun σ wx hE hk=>zBm hk.1 hb313 (CallK.of_ret (zDf hk.2.1 h1) fun v w2 hX hr=>⟨hX,hr.poly⟩)) (dcp (fun v _=>v=SmF) (fun _ _ _ _ _ h=>h) (fun σ wx hE hk=>zD zKy hk.1 (hb1.ext hE) rfl ⟨Ext.refl _,rfl⟩) (dcp (fun v w'=>IsPoly w' v (q)) (fun _ _ _ _ hx h=>h.ext hx.toExt) (fun σ wx hE hk=>zD zBK hk.1 (hb3.ext hE) rfl ⟨Ext.refl _,hq.ext hE⟩) (dcp (fun v w'=>IsPoly w' v (q1)) (fun _ _ _ _ hx h=>h.ext hx.toExt) (fun σ wx hE hk=>zBm hk.1 hb313 (CallK.of_ret (zDf hk.2.1 h2) fun v w2 hX hr=>⟨hX,hr.poly⟩)) (dcp (fun v w'=>IsPoly w' v (p1)) (fun _ _ _ _ hx h=>h.ext hx.toExt) (fun σ wx hE hk=>zS ⟨Ext.refl _,hk.1⟩) (dcp (fun v w'=>IsPoly w' v (q1)) (fun _ _ _ _ hx h=>h.ext hx.toExt) (fun σ wx hE hk=>zS ⟨Ext.refl _,hk.1⟩) (zAi (hK _ fun wq hE => ?_)))))))))))
 rintro v9 N9 v10 N10 v11 N11 v12 N12 v13 N13 v14 N14 v5 N5 v6 N6;refine zh ?_;replace hb1:=hb1.ext hE;have hJ:=hJe _ _ _ h0 hE;clear hE;refine zM (K5 [0,1,5,6] ?_);refine zF ?_;refine zg (X:=Nat) (fun f ρ w'=>∃ v5 v6 P Q i,Keep ρ [(0,.func (.yield l) #[] #[]),(1,.pointer (some ⟨b1,0,none⟩)),(5,v5),(6,v6)]∧IsPoly w' v5 P∧IsPoly w' v6 Q∧i≤c.length∧zHk f P Q=some (c.drop i)∧J i w'∧Blk w' b1 67 [SmF]) (fun f=>f) (q1.length+2) ⟨_,_,p1,q1,0,(kp rfl),N5,N6,Nat.zero_le _,by rw [List.drop_zero];exact h3,hJ,hb1⟩ ?_;clear N5 N6 h3 hJ hb1 h0 hb2 hb3 hp hq;rintro f ρ1 w1 ⟨v5,v6,P,Q,i,hk,hP5,hQ6,hil,hA,hJ,hb1⟩;have hP0:=hP5;have hQ0:=hQ6;obtain ⟨pp,pc,rfl,-,-,-⟩:=hP0;obtain ⟨qp,qc,rfl,-,-,-⟩:=hQ0;refine wpe_k _ hk ?_;clear hk ρ1;rcases f with _ | f
 · cases hA
 unfold zHk at hA;refine zA (rJ fun K=>K1 (zI zAB rfl (K8 rfl (rm [0,1,5,6,17] K ?_))));refine K0 rfl ?_ ?_<;>intro hc
 · have hP1:P≠[]:=fun e=>by rw [e] at hc;cases hc
   clear hc;rw [if_neg hP1] at hA;obtain ⟨l2,hd0,hA⟩:∃ l2,c.drop i=P :: l2∧((Q=[]∧l2=[])∨(Q≠[]∧∃ r s t,pdiv P Q=some r∧zFt r.2 (-1)=some s∧zGC s=some t∧zHk f Q t=some l2)):=by
    split at hA
    · rename_i hQ;exact ⟨[],(Option.some.inj hA).symm,.inl ⟨hQ,rfl⟩⟩
    · rename_i hQ;obtain ⟨r,e1,hA⟩:=bind_some hA;obtain ⟨s,e2,hA⟩:=bind_some hA;obtain ⟨t,e3,hA⟩:=bind_some hA;obtain ⟨l2,e4,hA⟩:=bind_some hA;exact ⟨l2,(Option.some.inj hA).symm,.inr ⟨hQ,r,s,t,e1,e2,e3,e4⟩⟩
   obtain ⟨hd1,hd2,hd3⟩:=drop_head hd0;refine sk (zF (zA (rJ fun K=>mv (K1 (zIm rfl ?_)))));refine CallK.conv (hy i hd1 #[.slice pp P.length pc] _ hJ ⟨_,rfl,by rw [hd2];exact hP5⟩) ?_;rintro _ w3 ⟨rfl,hJ2,hKT⟩;replace hP5:=hP5.keep hKT;replace hQ6:=hQ6.keep hKT;replace hb1:=hKT _ _ _ (.inr (.inr rfl)) hb1;clear hJ hKT;have hJ:=hJ2;clear hJ2;refine K1 (zq rfl (rm [0,1,5,6,21] K ?_));refine wcf rfl (sk (zA (zA ?_)));rcases hA with ⟨hQ1,hl2⟩ | ⟨hQ1,r,s,t,e1,e2,e3,hl2⟩
   · subst hQ1;have hend:i+1=c.length:=by
      have e:=congrArg List.length hd3;rw [hl2,List.length_drop] at e;simp at e;omega
     refine rI fun K=>K1 (zI zAB rfl (K8 rfl (rs [0,1,5,6,24] K ?_)));refine wct rfl (zE (zU (zZ (zAI (zZ (zQ ?_))))));exact ⟨rfl,_,zFE rfl,by rw [← hend];exact hJ⟩
   · obtain ⟨dq,dr⟩:=r;have hQl:Q.length≠0:=fun e=>hQ1 (List.eq_nil_of_length_eq_zero e);refine rI fun K=>K1 (zI zAB rfl (K8 rfl (rs [0,1,5,6,24] K ?_)));refine wcf (congrArg Value.bool (beq_eq_false_iff_ne.2 (by omega))) (sk (rJ fun K=>mv (K1 (zH hb254 (CallK.of_ret (zCl hP5 hQ6 e1) fun v28 w4 hE hr => ?_) rfl))));obtain ⟨da,db,rfl,-,hD⟩:=hr;replace hD:=hD.poly;replace hQ6:=hQ6.ext hE;replace hb1:=hb1.ext hE;replace hJ:=hJe _ _ _ hJ hE;clear hE hP5;refine mv (xt rfl (xt rfl (ag (ag (rm [0,1,5,6,8] K ?_)))))
     refine zAK [([(6,none)],none),([(1,none)],none),([(8,none)],none),([],none),([(33,some 1),(34,some 0)],none),([(32,some 3),(35,some 0)],none),([(31,some 5)],none),([(36,some 1)],none)] mixed (by kernel_rfl) (by kernel_rfl) (by kernel_rfl) fun K hK=>dvp (fun σ wx hE hk=>zC ⟨Ext.refl _,hk.1⟩) (dcp (fun v _=>v=SmF) (fun _ _ _ _ _ h=>h) (fun σ wx hE hk=>zD zKy hk.1 (hb1.ext hE) rfl ⟨Ext.refl _,rfl⟩) (dvp (fun σ wx hE hk=>zC ⟨Ext.refl _,hk.1⟩) (dcp (fun v w'=>IsNum w' v (-1)) (fun _ _ _ _ hx h=>h.ext hx.toExt) (fun σ wx hE hk=>zH hb38 (CallK.of_ret (Int_ok (n := -1) (by decide) (by decide)) fun v w2 hX hr=>⟨hX,hr⟩) rfl) (dcp (fun v w'=>IsPoly w' v (s)) (fun _ _ _ _ hx h=>h.ext hx.toExt) (fun σ wx hE hk=>zH hb56 (CallK.of_ret (zFK (IsPoly.of_eq hk.1 (hD.ext hE)) hk.2.1 e2) fun v w2 hX hr=>⟨hX,hr.poly⟩) rfl) (dcp (fun v w'=>IsPoly w' v (t)) (fun _ _ _ _ hx h=>h.ext hx.toExt) (fun σ wx hE hk=>zBm hk.1 hb313 (CallK.of_ret (zDf hk.2.1 e3) fun v w2 hX hr=>⟨hX,hr.poly⟩)) (dvp (fun σ wx hE hk=>zS ⟨Ext.refl _,hk.1⟩) (dcp (fun v w'=>IsPoly w' v (t)) (fun _ _ _ _ hx h=>h.ext hx.toExt) (fun σ wx hE hk=>zS ⟨Ext.refl _,hk.1⟩) (zAi (hK _ fun wq hE => ?_)))))))));rintro _ rfl v32 N32 _ rfl v34 N34 v35 N35 v36 N36 _ rfl v6 N6;refine zh ?_
     replace hb1:=hb1.ext hE;replace hJ:=hJe _ _ _ hJ hE;replace hQ6:=hQ6.ext hE;have N5:=hQ6;clear hE;refine zR (zO ?_);exact ⟨rfl,f,⟨_,_,Q,t,i+1,(kp rfl),N5,N6,by omega,by rw [hd3];exact hl2,hJ,hb1⟩,by omega⟩
 · have hP1:P=[]:=List.eq_nil_of_length_eq_zero (by have:=of_decide_eq_false hc;omega);clear hc;rw [if_pos hP1] at hA;have hend:i=c.length:=by
    have e:=congrArg List.length (Option.some.inj hA);rw [List.length_drop] at e;simp at e;omega
   subst hend;exact zY (zx (zl (zL (zLl ⟨rfl,_,zFE rfl,hJ⟩))))
variable {T:TypeId} {c cu:Nat} {cs:List Value} {l:List Rat} {pv:Option Addr} {u v:Value} {w w':World}
theorem AppC.blkLt {sz:Nat} (h:AppC sz w w') (hB:Blk w c T cs) (hc:c<sz):Blk w' c T cs:=by
 rcases h with h | ⟨b,cs',h1,h2,h3⟩
 · exact hB.ext h
 · exact hB.upd h3 (by omega)
theorem zAv.le {c:List Poly} (h:zAv w v c) (hx:BlkLe w w'):zAv w' v c:=by
 obtain ⟨p,k,h1,h2,h3,h4⟩:=h;refine ⟨p,k,h1,h2,?_,h4⟩;rcases h3 with h3 | ⟨b,o,cs,e1,e2,e3,e4⟩
 · exact .inl h3
 · exact .inr ⟨b,o,cs,e1,hx _ _ _ e2,e3,fun i hi=>let ⟨u,g1,g2⟩:=e4 i hi;⟨u,g1,g2.le hx⟩⟩
theorem take_succ_p {c:List Poly} (hi:i<c.length):c.take (i+1)=c.take i++[c.getD i []]:=by
 rw [List.take_add_one];simp [hi]
theorem sturm_ok {pu:Option Addr} {nu nv cv:Nat}:Ret prog 257 #[.slice pu nu cu,.slice pv nv cv] w (fun r w'=>∃ b2 b3 b1,r = .func (.func 314) #[] #[.pointer (some ⟨b1,0,none⟩),.pointer (some ⟨b2,0,none⟩),.pointer (some ⟨b3,0,none⟩)]∧Blk w' b1 67 [SmF]∧Blk w' b2 25 [.slice pu nu cu]∧Blk w' b3 25 [.slice pv nv cv]∧w.heap.size≤b1∧w.heap.size≤b2∧w.heap.size≤b3):=by
 refine J0 7 func257 rfl (rj fun K => ?_);refine K1 (zt fun b1 w1 hb hE hB1 hs => ?_);have hgb1:w.heap.size≤b1:=by rw [hb];exact E0.size
 replace E0:=E0.trans hE;clear hE hs hb;refine K1 (zt fun b2 w2 hb hE hB2 hs => ?_);have hgb2:w.heap.size≤b2:=by rw [hb];exact E0.size
 have ne_b1_b2:b1≠b2:=by have:=hB1.lt;omega
 replace E0:=E0.trans hE;replace hB1:=hB1.ext hE;clear hE hs hb;refine ag (rm [2,3] K ?_);refine rj fun K => ?_;refine K1 (zV zero67 fun b3 w3 hb hE hB3 hs => ?_);have hgb3:w.heap.size≤b3:=by rw [hb];exact E0.size
 have ne_b1_b3:b1≠b3:=by have:=hB1.lt;omega
 have ne_b2_b3:b2≠b3:=by have:=hB2.lt;omega
 replace E0:=E0.trans hE;replace hB1:=hB1.ext hE;replace hB2:=hB2.ext hE;clear hE hs hb;refine K1 (zc size67 rfl hB3 rfl (Nat.le_of_ble_eq_true rfl) (by decide) rfl fun w4 hU hN => ?_);replace E0:=E0.upd hU hgb3;replace hB1:=hB1.upd hU ne_b1_b3;replace hB2:=hB2.upd hU ne_b2_b3;clear hB3;have hB3:=hN;clear hN hU;refine rm [2,3,5] K ?_;refine rj fun K=>K1 (zBj (ag (rm [4] K ?_)));exact zE (en rfl E0 ⟨b1,b2,b3,rfl,hB3,hB1,hB2,hgb3,hgb1,hgb2⟩)
theorem IsPoly.len (h:IsPoly w v l):l.length≤4096:=by obtain ⟨p,c,_,_,_,h⟩:=h;exact h
theorem AppC.size {sz:Nat} (h:AppC sz w w'):w.heap.size≤w'.heap.size:=by
 rcases h with h | ⟨b,cs',h1,h2,h3⟩
 · exact h.size
 · have:=h3.size;omega
theorem zGE {p q:Poly} {c:List Poly} (hp:IsPoly w u p) (hq:IsPoly w v q) (h:chain p q=some c):Ret prog 171 #[u,v] w (fun r w'=>zAv w' r c):=by
 have hcl:c.length≤4098:=by have:=(zDV h).1;have:=hq.len;omega
 have hp0:=hp;have hq0:=hq;obtain ⟨pu,cu,rfl,-⟩:=hp0;obtain ⟨pv,cv,rfl,-⟩:=hq0;have E0:Ext w w:=Ext.refl w;refine zHS 16 func171 rfl rfl (Nat.le_of_ble_eq_true rfl) (rj fun K=>ag (rm [0,1] K ?_));refine rj fun K => ?_;refine K1 (zV zero240 fun b1 w1 hb hE hB1 hs => ?_);have hgb1:w.heap.size≤b1:=by rw [hb];exact E0.size
 replace E0:=E0.trans hE;replace hp:=hp.ext hE;replace hq:=hq.ext hE;clear hE hs hb;refine rm [0,1,5] K ?_;refine zA (rJ fun K=>mv (K1 (zH hb257 (CallK.of_ret sturm_ok fun v9 w9 hE hr => ?_) rfl)));obtain ⟨c2,c3,c1,rfl,hC1,hC2,hC3,hg1,hg2,hg3⟩:=hr;have hx1:b1≠c1:=by have:=hB1.lt;omega
 have hx2:b1≠c2:=by have:=hB1.lt;omega
 have hx3:b1≠c3:=by have:=hB1.lt;omega
 replace E0:=E0.trans hE;replace hB1:=hB1.ext hE;replace hp:=hp.ext hE;replace hq:=hq.ext hE;clear hE;refine rm [5,9] K ?_;refine zF ?_;obtain ⟨sz,hsz⟩:∃ sz,w9.heap.size=sz:=⟨_,rfl⟩;have hlb1:b1<sz:=by have:=hB1.lt;omega
 have hl1:c1<sz:=by have:=hC1.lt;omega
 have hl2:c2<sz:=by have:=hC2.lt;omega
 have hl3:c3<sz:=by have:=hC3.lt;omega
 have hwsz:w.heap.size≤sz:=by have:=E0.size;omega
 refine zKM rfl rfl hb314 (by decide) (fun i w'=>Ext w w'∧sz≤w'.heap.size∧(∃ va,Blk w' b1 240 [va]∧AccC sz w' va (c.take i))∧Blk w' c1 67 [SmF]∧Blk w' c2 25 [.slice pu p.length cu]∧Blk w' c3 25 [.slice pv q.length cv]∧IsPoly w' (.slice pu p.length cu) p∧IsPoly w' (.slice pv q.length cv) q) KeepT c.length (encP c)
  (fun i args w1 h=>by obtain ⟨v,e,_⟩:=h;rw [e];rfl)
  (fun w1 hE=>⟨E0.trans hE,by have:=hE.size;omega,⟨_,hB1.ext hE,by rw [List.take_zero];exact AccC.nil⟩,hC1.ext hE,hC2.ext hE,hC3.ext hE,hp.ext hE,hq.ext hE⟩)
  (fun i w1 w2 hI hE=>by obtain ⟨g1,g2,⟨va,g3,g4⟩,g5,g6,g7,g8,g9⟩:=hI;exact ⟨g1.trans hE,by have:=hE.size;omega,⟨va,g3.ext hE,g4.ext hE⟩,g5.ext hE,g6.ext hE,g7.ext hE,g8.ext hE,g9.ext hE⟩)
  (fun i l w1 w2 hl hI hO=>by obtain ⟨g1,g2,⟨va,g3,g4⟩,g5,g6,g7,g8,g9⟩:=hI;exact ⟨g1.oth hO (by omega),by rw [hO.size];exact g2,⟨va,g3.oth hO,g4.le hO.le⟩,g5.oth hO,g6.oth hO,g7.oth hO,g8.le hO.le,g9.le hO.le⟩)
  (fun l J hJe hJi hy w1 hE h0=>by obtain ⟨g1,g2,-,g5,g6,g7,g8,g9⟩:=hJi 0 w1 h0;exact sturm2_ok h l J hJe hy w1 h0 g5 g6 g7 g8 g9)
  ?_ ?_
 clear E0 hB1 hC1 hC2 hC3 hp hq
 · rintro l i args w1 hl hi ⟨E0,hs1,⟨va,hB1,hA⟩,hC1,hC2,hC3,hp,hq⟩ ⟨vi,rfl,hvi⟩;refine wpe_k [(5,.pointer (some ⟨b1,0,none⟩)),(10,vi)] (kp rfl) ?_;refine K6 fun K=>ag (rl K ⟨rfl,rfl,NC.refl _,fun w5 hO => ?_⟩);replace E0:=E0.oth hO (by omega);replace hs1:sz≤w5.heap.size:=(by rw [hO.size];exact hs1);replace hB1:=hB1.oth hO;replace hA:=hA.le hO.le;replace hC1:=hC1.oth hO;replace hC2:=hC2.oth hO;replace hC3:=hC3.oth hO;replace hp:=hp.le hO.le;replace hq:=hq.le hO.le;replace hvi:=hvi.le hO.le;have hKT:=KeepT.oth hO;clear hO;refine zF (K6 fun K=>K1 (zD zLN rfl hB1 rfl (mv ?_)));refine K1 (zi (cs:=[vi]) zES info25' (by decide) (by decide) (by obtain ⟨pp,pc,rfl,-⟩:=hvi;kernel_rfl) fun bb w10 hb hE hBb hs => ?_);have hNC:=NC.ext hE;replace hKT:=hKT.trans (KeepT.ext hE);have hs2:=hE.size;replace hs1:sz≤w10.heap.size:=by omega
   clear hs2;replace E0:=E0.trans hE;replace hB1:=hB1.ext hE;replace hA:=hA.ext hE;replace hC1:=hC1.ext hE;replace hC2:=hC2.ext hE;replace hC3:=hC3.ext hE;replace hp:=hp.ext hE;replace hq:=hq.ext hE;replace hvi:=hvi.ext hE;clear hE hb hs;refine K1 (zEZ hA rfl hBb hvi (by rw [List.length_take];omega) hs1 fun vb w11 hX hA2 => ?_);replace hKT:=hKT.trans hX.keep;replace hNC:=hNC.trans hX.nc;have hs2:=hX.size;replace hs1:sz≤w11.heap.size:=by omega
   clear hs2;replace E0:=hX.ext hwsz E0;replace hB1:=hX.blk hB1 (by decide);replace hC1:=hX.blk hC1 (by decide);replace hC2:=hX.blkLt hC2 hl2;replace hC3:=hX.blkLt hC3 hl3;replace hp:=hp.keep hX.keep;replace hq:=hq.keep hX.keep;clear hX hA hBb hvi;have hA3:=hA2;obtain ⟨ap,ac,rfl,-⟩:=hA3;refine K1 (zc size240 rfl hB1 rfl (Nat.le_of_ble_eq_true rfl) (by decide) rfl fun w12 hU hN => ?_);replace hKT:=hKT.trans (KeepT.upd hU hB1 (by decide) (by decide) (by decide));replace hNC:=hNC.trans (NC.upd hU hB1);replace hs1:sz≤w12.heap.size:=by have:=hU.size;omega
   replace E0:=E0.upd hU hgb1;have hA:=hA2.upd hU hB1 (by decide) (by decide) (by decide);replace hC1:=hC1.upd hU (Ne.symm hx1);replace hC2:=hC2.upd hU (Ne.symm hx2);replace hC3:=hC3.upd hU (Ne.symm hx3);replace hp:=hp.updT hU hB1 (by decide) (by decide);replace hq:=hq.updT hU hB1 (by decide) (by decide);clear hB1 hA2 hU;have hB1:=hN;clear hN;refine rl K (zR ?_);refine ⟨rfl,hNC,fun w8 hO=>⟨⟨E0.oth hO (by omega),by rw [hO.size];exact hs1,⟨_,hB1.oth hO,(by rw [take_succ_p hi];exact hA.le hO.le)⟩,hC1.oth hO,hC2.oth hO,hC3.oth hO,hp.le hO.le,hq.le hO.le⟩,hKT.trans (KeepT.oth hO)⟩⟩
 · rintro D w2 hD ⟨E0,hs1,⟨va,hB1,hA⟩,hC1,hC2,hC3,hp,hq⟩ hDf;rw [List.take_length] at hA;refine zR (zM (rj fun K=>K1 (zD zLN rfl hB1 rfl (ag (rm [4] K ?_)))));refine zE (zQ ?_);exact ⟨D,_,rfl,hDf,fun w2 hO=>⟨zj rfl rfl,E0.oth hO (by omega),(hA.chain (by have:=(zDV h).1;have:=hq.len;omega)).le hO.le⟩⟩
theorem zMy {p:Poly} {c:List Poly} (hp:IsPoly w v p) (h:own p=some c):Ret prog 255 #[v] w (fun r w'=>zAv w' r c):=by
 obtain ⟨s,h1,h⟩:=bind_some h;obtain ⟨d,h2,h3⟩:=bind_some h;refine J0 9 func255 rfl (rj fun K=>ag (rm [0] K ?_));refine rJ fun K=>K1 (j0 E0 hb312 (simple_ok hp h1) fun v4 w2 E0 N4=>ag (rm [0] K ?_));refine rJ fun K=>mv ?_;have N4:=N4.poly;refine K1 (j1 E0 N4.ext hb256 (zFo N4 h2) fun v7 w2 E0 N4 N7=>K1 (j0 E0 hb171 (zGE N4 N7.poly h3) fun v8 w2 E0 N8=>ag (rm [2] K ?_)));exact zE (en rfl E0 N8)
variable {b:Nat} {cv:Value} {f:FuncId}
def longP (p:Poly):Bool:=decide (41<(trim p).length)
def idxL {α:Type} (pr:α→Bool):List α→Nat→Int
 | [],_ => -1
 | p :: l,i=>if pr p then (i:Int) else idxL pr l (i+1)
theorem zFC {α:Type} {pr:α→Bool}:∀ {l:List α} {i:Nat},(idxL pr l i = -1∧l.any pr=false)∨((i:Int)≤idxL pr l i∧idxL pr l i<i+l.length∧l.any pr=true)
 | [],i => .inl ⟨rfl,rfl⟩
 | p :: l,i=>by
  unfold idxL;by_cases h:pr p=true
  · rw [if_pos h];exact .inr ⟨Int.le_refl _,by simp;omega,by simp [h]⟩
  · rw [if_neg h];rcases @zFC α pr l (i+1) with ⟨e1,e2⟩ | ⟨e1,e2,e3⟩
    · exact .inl ⟨e1,by simp [h,e2]⟩
    · exact .inr ⟨by omega,by simp;omega,by simp [h,e3]⟩
theorem zIi {l:List Poly} (h:i<l.length):l.drop i=l.getD i [] :: l.drop (i+1):=by
 rw [List.drop_eq_getElem_cons h];simp [h]
theorem IsPoly.chain1 {p:Poly} (h:IsPoly w v p) (hB:Blk w b 25 [v]):zAv w (.slice (some ⟨b,0,none⟩) 1 1) [p] :=
 ⟨_,1,rfl,Nat.le_refl _,.inr ⟨b,0,_,rfl,hB,by simp,fun i hi=>by
  obtain rfl:i=0:=by simp at hi;omega
  exact ⟨v,rfl,h⟩⟩,by simp⟩
theorem zDT:∀ {l:List Int} {last n:Int},n≤flipL l last n∧flipL l last n≤n+l.length
 | [],last,n=>by simp [flipL]
 | s :: l,last,n=>by
  unfold flipL;split
  · have := @zDT l last n;simp;omega
  · split
    · have := @zDT l s (n+1);simp;omega
    · have := @zDT l s n;simp;omega
theorem zGo {x:Rat} {c:List Poly} {a:Int} (h:zGk x c=some a):0≤a∧a≤c.length:=by
 obtain ⟨l,hl,rfl⟩:=map_some h;have := @zDT l 0 0;rw [zEJ hl] at this;omega
theorem zCK {m:Bool} {c:List Poly}:0≤zBa m c∧zBa m c≤c.length:=by
 have := @zDT (c.map (endS m)) 0 0;simp at this;unfold zBa;omega
theorem zCt {x y:Rat} {z:Int} (h:rcmp x y=some z):rroom x y=true∧z=rcmpI x y:=by
 unfold rcmp at h;split at h
 · exact ⟨by assumption,(Option.some.inj h).symm⟩
 · cases h
theorem long1_ok {p:Poly} (hp:IsPoly w v p):Ret prog 310 #[v] w (fun u _=>u = .bool (longP p)):=by
 refine J0 6 func310 rfl (rj fun K=>ag (rm [0] K ?_));refine rJ fun K=>K1 (j0 E0 hb18 (zDw hp) fun vi w2 E0 hr => ?_);subst hr;refine K8 rfl (ag (rm [2] K ?_));exact zE (en rfl E0 (congrArg Value.bool (decide_eq_decide.2 (by omega))))
theorem Index_ok {c:List Poly} {pr:Poly→Bool} (hc:zAv w cv c) (hf:zAs prog f) (hsig:∀ i,i<c.length→∀ (w':World) (v:Value),Ext w w'→IsPoly w' v (c.getD i [])→Ret prog f #[v] w' (fun u _=>u = .bool (pr (c.getD i [])))):Ret prog 349 #[cv,.func (.func f) #[] #[]] w (fun u _=>u = .int .i64 (idxL pr c 0)):=by
 obtain ⟨cp,cc,rfl,hcc,hC,hcl⟩:=hc;have E0:Ext w w:=Ext.refl w;refine J0 19 func349 rfl (rj fun K=>ag (rm [0,1] K ?_));refine zA (rJ fun K=>K1 (zI zHE rfl (mv (rm [0,1,7,8] K ?_))));refine zF (zg (X:=Nat) (fun i ρ w'=>Keep ρ [(0,.slice cp c.length cc),(1,.func (.func f) #[] #[]),(7,.int .i64 (c.length:Nat)),(8,.int .i64 (i:Nat))]∧i≤c.length∧Ext w w'∧idxL pr (c.drop i) i=idxL pr c 0) (fun i=>c.length-i) 0 ⟨(kp rfl),Nat.zero_le _,E0,rfl⟩ ?_);clear E0;rintro i ρ1 w1 ⟨hk,hil,E0,hI⟩;refine wpe_k _ hk ?_;clear hk ρ1;refine rj fun K=>K8 rfl (rm [0,1,7,8,9] K ?_);refine zA ?_;refine K0 rfl ?_ ?_<;>intro hc
 · have hlt:i<c.length:=t_lt hc;clear hc;have hC1:=hC.ext E0;rw [zIi (by omega),idxL] at hI;refine sk (zA (zF (rJ fun K=>ag (rm [0,1,5,7,8] K ?_))));refine rJ fun K=>mv (mv (K1 (zFU hC1 rfl rfl hlt (K1 (zGQ hC1 hlt rfl fun v15 N15=>K1 (zBm rfl hf (CallK.of_ret (hsig i hlt _ v15 E0 N15) fun v19 w2 hE hr => ?_)))))));subst hr;replace E0:=E0.trans hE;clear hE N15 hC1;refine rm [0,1,5,7,8,16] K ?_;refine K0 rfl ?_ ?_<;>intro hc
   · have hcc2:pr (c.getD i [])=true:=hc;clear hc;rw [if_pos hcc2] at hI;refine rJ fun K=>ag (rm [0,1,4,7,8] K ?_);refine zE (zZ (zU (zAI (zZ (zU (zQ ?_))))));exact ⟨rfl,_,zj rfl rfl,E0,by rw [← hI];rfl⟩
   · have hcc2:pr (c.getD i [])=false:=hc;clear hc;rw [if_neg (by rw [hcc2];decide)] at hI;exact zp (zR (zM (K6 fun K=>K8 rfl (mv (rl K (zO (⟨rfl,i+1,⟨⟨rfl,rfl,rfl,rfl,rfl,rfl,rfl,congrArg (Value.int .i64) (zr (by omega)),trivial⟩,by omega,E0,hI⟩,by omega⟩)))))))
 · have hge:=f_lt hc;obtain rfl:i=c.length:=by omega
   clear hc;rw [List.drop_eq_nil_of_le (by omega),idxL] at hI;refine zY (zx (zl (zL (zM (rj fun K=>ag (rm [0,1,4,7,8] K ?_))))));refine zE (zQ ?_);exact ⟨rfl,_,zj rfl rfl,E0,by rw [← hI];rfl⟩
theorem Contains_ok {c:List Poly} {pr:Poly→Bool} (hc:zAv w cv c) (hf:zAs prog f) (hsig:∀ i,i<c.length→∀ (w':World) (v:Value),Ext w w'→IsPoly w' v (c.getD i [])→Ret prog f #[v] w' (fun u _=>u = .bool (pr (c.getD i [])))):Ret prog 309 #[cv,.func (.func f) #[] #[]] w (fun u _=>u = .bool (c.any pr)):=by
 refine J0 9 func309 rfl (rj fun K=>ag (rm [0,1] K ?_));refine rJ fun K=>mv (K1 (j0 E0 hb349 (Index_ok hc hf hsig) fun vi w2 E0 hr => ?_));subst hr;refine K8 rfl (ag (rm [4] K ?_));refine zE (zQ ?_);exact ⟨rfl,_,zj rfl rfl,E0,congrArg Value.bool (by
  rcases @zFC _ pr c 0 with ⟨e1,e2⟩ | ⟨e1,e2,e3⟩
  · rw [e2];exact decide_eq_false (by omega)
  · rw [e3];exact decide_eq_true (by omega))⟩
theorem long_ok {c:List Poly} (hc:zAv w cv c):Ret prog 252 #[cv] w (fun u _=>u = .bool (c.any longP)):=by
 refine J0 5 func252 rfl (rj fun K=>ag (rm [0] K ?_));refine rJ fun K=>K1 (j0 E0 hb309 (Contains_ok (pr:=longP) hc hb310 fun i hi w2 v hE hv=>long1_ok hv) fun vi w2 E0 hr => ?_);subst hr;refine ag (rm [2] K ?_);exact zE (en rfl E0 rfl)
theorem zJZ {p:Poly} (hp:IsPoly w v p):Ret prog 165 #[v] w (fun u _=>u = .int .i64 (asked p)):=by
 refine J0 11 func165 rfl (rj fun K=>ag (rm [0] K ?_));refine zA (zF (rj fun K=>mv ?_));refine K1 (zi (cs:=[v]) zES info25' (by decide) (by decide) (by obtain ⟨pp,pc,rfl,-⟩:=hp;kernel_rfl) fun bb w10 hb hE hBb hs => ?_);replace E0:=E0.trans hE;replace hp:=hp.ext hE;clear hE hb hs;refine K1 (j1 E0 hp.ext hb252 (long_ok (hp.chain1 hBb)) fun vi w2 E0 hp hr => ?_);subst hr;refine ag (rm [0,3] K ?_);refine K0 rfl ?_ ?_<;>intro hc
 · have h41:41<(trim p).length:=by have h1:=show ([p].any longP)=true from hc;simpa [longP] using h1
   clear hc;refine rj fun K=>ag (rm [2] K ?_);refine zE (zZ (zU (zQ ?_)));exact ⟨rfl,_,zj rfl rfl,E0,by rw [asked,if_pos h41];rfl⟩
 · have h41:¬ 41<(trim p).length:=by have h1:=show ([p].any longP)=false from hc;simp [longP] at h1;omega
   clear hc;refine rJ fun K=>K1 (j0 E0 hb18 (zDw hp) fun vi w2 E0 hr => ?_);subst hr;refine K8 rfl (ag (rm [7] K ?_));refine K0 rfl ?_ ?_<;>intro hc
   · have h0:trim p=[]:=List.eq_nil_of_length_eq_zero (by have:=of_decide_eq_true hc;omega);clear hc;refine rj fun K=>ag (rm [2] K ?_);refine zE (zZ (zU (zQ ?_)));exact ⟨rfl,_,zj rfl rfl,E0,by rw [asked,if_neg h41,if_pos h0];rfl⟩
   · have h0:trim p≠[]:=fun e=>by rw [e] at hc;cases hc
     clear hc;refine zp (zR (zM (rj fun K=>ag (rm [2] K ?_))));refine zE (zQ ?_);exact ⟨rfl,_,zj rfl rfl,E0,by rw [asked,if_neg h41,if_neg h0];rfl⟩
variable {N t:Nat} {P:Program} {fn:Func} {u1 u2:Value} {ρ:Env}
theorem zEK (p:Poly):asked p=0∨asked p=3∨asked p=8:=by
 unfold asked;split
 · exact .inr (.inl rfl)
 · split
   · exact .inr (.inr rfl)
   · exact .inl rfl
theorem zBi {u s:Nat} (h:fn.results = #[.tmp t,.tmp u,.tmp s]) (hd:(dom ρ).contains t=true) (hu:(dom ρ).contains u=true) (hs:(dom ρ).contains s=true):Gives P fn N ρ w (.tuple #[look1 ρ t,look1 ρ u,look1 ρ s]):=fun a hf=>by
 rw [show (results fn a.tmps).run P w = .ok (.tuple #[a.tmps.getD t undef,a.tmps.getD u undef,a.tmps.getD s undef]) w from by simp [results,h],hf.at_ t (by simpa using hd),hf.at_ u (by simpa using hu),hf.at_ s (by simpa using hs)]
theorem zNG {p:Poly} {c:List Poly} (h:own p=some c):∀ i,i<c.length→c.getD i []≠[]:=by
 obtain ⟨s,_,h⟩:=bind_some h;obtain ⟨d,_,h⟩:=bind_some h;exact (zDV h).2
theorem zAv.len {c:List Poly} (h:zAv w v c):c.length≤8192:=by obtain ⟨_,_,_,_,_,h⟩:=h;exact h
theorem Count_ok {p:Poly} {x y:Rat} {n:Int×Int} (hp:IsPoly w v p) (hx:IsNum w u1 x) (hy:IsNum w u2 y) (h:count p x y=some n):Ret prog 178 #[v,u1,u2] w (fun r _=>r = .tuple #[.int .i64 n.1,.int .i64 n.2]):=by
 have hx0:=hx;have hy0:=hy;obtain ⟨xn,xd,rfl,hxn,hxd⟩:=hx0;obtain ⟨yn,yd,rfl,hyn,hyd⟩:=hy0;refine J0 27 func178 rfl (rj fun K => ?_);refine K1 (zt fun b1 w1 hb hE hB1 hs => ?_);have hgb1:w.heap.size≤b1:=by rw [hb];exact E0.size
 replace E0:=E0.trans hE;replace hp:=hp.ext hE;replace hx:=hx.ext hE;replace hy:=hy.ext hE;clear hE hs hb;refine K1 (zt fun b2 w2 hb hE hB2 hs => ?_);have hgb2:w.heap.size≤b2:=by rw [hb];exact E0.size
 have ne_b1_b2:b1≠b2:=by have:=hB1.lt;omega
 replace E0:=E0.trans hE;replace hp:=hp.ext hE;replace hx:=hx.ext hE;replace hy:=hy.ext hE;replace hB1:=hB1.ext hE;clear hE hs hb;refine ag (ag (rm [0,4,5] K ?_));refine zA ?_;have hNX:NumAt b1 x _:=⟨_,hB1,rfl,hx⟩;have hNY:NumAt b2 y _:=⟨_,hB2,rfl,hy⟩;refine rI fun K=>K1 (j7 E0 hp.ext hx.ext hy.ext hB1.ext hB2.ext hNX.ext hNY.ext hb165 (zJZ hp) fun vi w2 E0 hp hx hy hB1 hB2 hNX hNY hr => ?_);subst hr;refine ag (rs [0,4,5,8] K ?_);refine zA (zA ?_);have hS:(asked p=0∧∃ z,rcmp x y=some z∧rroom x y=true∧0<rcmpI x y∧some ((0,7):Int×Int)=some n)∨(asked p=0∧∃ z,rcmp x y=some z∧rroom x y=true∧¬ 0<rcmpI x y∧((own p).bind fun c=>(zGk x c).bind fun a=>(zGk y c).bind fun b=>some (a-b,(0:Int)))=some n)∨asked p=3∨asked p=8:=by
  rcases zEK p with e | e
  · rw [count,if_neg (by simp [e])] at h;obtain ⟨z,hz0,h⟩:=bind_some h;obtain ⟨hrr,rfl⟩:=zCt hz0;by_cases hz:0<rcmpI x y
    · rw [if_pos hz] at h;exact .inl ⟨e,_,hz0,hrr,hz,h⟩
    · rw [if_neg hz] at h;exact .inr (.inl ⟨e,_,hz0,hrr,hz,h⟩)
  · exact .inr (.inr e)
 rcases hS with ⟨e,hS⟩ | ⟨e,hS⟩ | e | e
 · obtain ⟨z,hz0,hrr,hz,h⟩:=hS;rw [e];obtain rfl:=Option.some.inj h;refine rI fun K=>K8 rfl (mv (K2 (za rfl hNX fun v14 N14=>K2 (za rfl hNY fun v15 N15=>K2 (j7 E0 hp.ext hx.ext hy.ext hB1.ext hB2.ext hNX.ext hNY.ext hb73 (zDq N14 N15 hrr) fun vi w2 E0 hp hx hy hB1 hB2 hNX hNY hr => ?_)))));subst hr;clear N14 N15;refine K2 (zJ rfl rfl rfl (pk rfl (rs [0,4,5,8,18] K ?_)));refine wct (congrArg Value.bool (decide_eq_true hz)) (K6 fun K=>ag (rs [0,4,5,8] K ?_));refine zA (rJ fun K=>K8 rfl (rm [0,4,5,8,20] K ?_));refine wct rfl (rJ fun K=>ag (ag (rm [6,7] K ?_)));exact zE (zU (zQ ⟨rfl,_,zw rfl rfl rfl,E0,rfl⟩))
 · obtain ⟨z,hz0,hrr,hz,h⟩:=hS;rw [e];obtain ⟨c,h1,h⟩:=bind_some h;obtain ⟨a,h2,h⟩:=bind_some h;obtain ⟨b,h3,h⟩:=bind_some h;obtain rfl:=Option.some.inj h;refine rI fun K=>K8 rfl (mv (K2 (za rfl hNX fun v14 N14=>K2 (za rfl hNY fun v15 N15=>K2 (j7 E0 hp.ext hx.ext hy.ext hB1.ext hB2.ext hNX.ext hNY.ext hb73 (zDq N14 N15 hrr) fun vi w2 E0 hp hx hy hB1 hB2 hNX hNY hr => ?_)))));subst hr;clear N14 N15;refine K2 (zJ rfl rfl rfl (pk rfl (rs [0,4,5,8,18] K ?_)));refine wcf (congrArg Value.bool (decide_eq_false hz)) (sk (zA (rJ fun K=>K8 rfl (rm [0,4,5,8,20] K ?_))));refine wcf rfl (sk (zA (zAK [([(0,none)],none),([(22,some 0)],none),([(4,none)],none),([(5,none)],none),([(23,some 2),(24,some 1),(25,some 0)],none),([(26,some 0)],none),([],none)] mixed (by kernel_rfl) (by kernel_rfl) (by kernel_rfl) fun K hK=>dvp (fun σ wx hE hk=>zC ⟨Ext.refl _,hk.1⟩) (dcp (fun v w'=>zAv w' v c) (fun _ _ _ _ hx h=>h.ext hx.toExt) (fun σ wx hE hk=>zH hb255 (CallK.of_ret (zMy (IsPoly.of_eq hk.1 (hp.ext hE)) h1) fun v w2 hX hr=>⟨hX,hr⟩) rfl) (dcp (fun v w'=>IsNum w' v x) (fun _ _ _ _ hx h=>h.ext hx.toExt) (fun σ wx hE hk=>za hk.1 (hNX.ext hE) fun v h=>⟨Ext.refl _,h⟩) (dcp (fun v w'=>IsNum w' v y) (fun _ _ _ _ hx h=>h.ext hx.toExt) (fun σ wx hE hk=>za hk.1 (hNY.ext hE) fun v h=>⟨Ext.refl _,h⟩) ?_))))))
   refine dcp (fun v _=>v = .int .i64 (a-b)) (fun _ _ _ _ _ h=>h) (fun σ wx hE hk=>(by have hl:=hk.1.len;have hba:=zGo h2;have hbb:=zGo h3;exact zH hb260 (CallK.of_ret (between_ok hk.1 hk.2.1 hk.2.2.1 h2 h3) fun v w2 hX hr=>⟨hX,by rw [hr,zm (by omega) (by omega)]⟩) rfl)) ?_;refine dcp (fun v _=>v = .int .i64 (a-b)) (fun _ _ _ _ _ h=>h) (fun σ wx hE hk=>zS ⟨Ext.refl _,hk.1⟩) (dvp (fun σ wx hE hk=>zS ⟨Ext.refl _,rfl⟩) (zAi (hK _ fun wq hE => ?_)));rintro _ rfl v23 N23 v24 N24 v25 N25 v26 N26 v6 N6 _ rfl;refine zh ?_;replace E0:=E0.trans hE;replace hp:=hp.ext hE;replace hx:=hx.ext hE;replace hy:=hy.ext hE;replace hB1:=hB1.ext hE;replace hB2:=hB2.ext hE;clear hE;refine zM (K5 [6,7] ?_);refine zE (zQ ?_);exact ⟨rfl,_,zw rfl rfl rfl,E0,by subst N6;rfl⟩
 · rw [e];rw [count,if_pos (by simp [e]),e] at h;obtain rfl:=Option.some.inj h;refine rI fun K=>K8 rfl (mv (K3 (K3 (K3 (K3 (pk rfl (rs [0,4,5,8,18] K ?_)))))));refine wcf rfl (sk (zA (rJ fun K=>K8 rfl (rm [0,4,5,8,20] K ?_))));refine wct rfl (rJ fun K=>ag (ag (rm [6,7] K ?_)));exact zE (zU (zQ ⟨rfl,_,zw rfl rfl rfl,E0,rfl⟩))
 · rw [e];rw [count,if_pos (by simp [e]),e] at h;obtain rfl:=Option.some.inj h;refine rI fun K=>K8 rfl (mv (K3 (K3 (K3 (K3 (pk rfl (rs [0,4,5,8,18] K ?_)))))));refine wcf rfl (sk (zA (rJ fun K=>K8 rfl (rm [0,4,5,8,20] K ?_))));refine wct rfl (rJ fun K=>ag (ag (rm [6,7] K ?_)));exact zE (zU (zQ ⟨rfl,_,zw rfl rfl rfl,E0,rfl⟩))
theorem zCC {p:Poly} {T:Int} (hp:IsPoly w v p) (h:times p=some T):Ret prog 169 #[v] w (fun r _=>r = .int .i64 T ∧ -40000000≤T∧T≤40000000):=by
 have hpl:=hp.len;unfold times at h;have E0:Ext w w:=Ext.refl w;refine J0 24 func169 rfl (rj fun K=>ag (rm [0] K ?_));refine rj fun K=>ag (rm [0,3] K ?_);refine zA (zF (zg (X:=Nat) (fun f ρ w'=>∃ v0 P n,Keep ρ [(0,v0),(3,.int .i64 n)]∧IsPoly w' v0 P∧Ext w w'∧zLt f P n=some T∧f≤4097 ∧ -(((4097-f:Nat):Int)*8192)≤n∧n≤((4097-f:Nat):Int)*8192) (fun f=>f) (p.length+1) ⟨v,p,0,(kp rfl),hp,E0,h,by omega,by omega,by omega⟩ ?_));clear E0 hp h hpl;rintro f ρ1 w1 ⟨v0,P,n,hk,hp,E0,h,hf,hn1,hn2⟩;refine wpe_k _ hk ?_;clear hk ρ1;rcases f with _ | f
 · cases h
 unfold zLt at h;refine zA (rJ fun K=>K1 (j1 E0 hp.ext hb18 (zDw hp) fun vi w2 E0 hp hr => ?_));subst hr;refine K8 rfl (rm [0,3,7] K ?_);refine K0 rfl ?_ ?_<;>intro hc
 · have h0:¬ (trim P).length≤1:=by have:=of_decide_eq_true hc;omega
   clear hc;rw [if_neg h0] at h;obtain ⟨c,h1,h⟩:=bind_some h;obtain ⟨d,h2,h⟩:=bind_some h;obtain ⟨g,h3,h⟩:=bind_some h;have b1 := @zCK true c;have b2 := @zCK false c;refine sk (zF (rJ fun K=>K1 (j1 E0 hp.ext hb255 (zMy hp h1) fun v9 w2 E0 hp hC => ?_)));have hCl:=hC.len;refine ag (rm [0,3,4] K ?_);refine rJ fun K=>mv (K1 (j2 E0 hp.ext hC.ext hb173 (zGd) fun v12 w2 E0 hp hC hr => ?_));obtain ⟨m1,rfl,hM1⟩:=hr;refine K1 (j2 E0 hp.ext hC.ext hb172 (zDI hC hM1 (zNG h1)) fun vi w2 E0 hp hC hr => ?_);subst hr;refine mv (K1 (j2 E0 hp.ext hC.ext hb173 (zGd) fun v12 w2 E0 hp hC hr => ?_));obtain ⟨m2,rfl,hM2⟩:=hr;refine K1 (j2 E0 hp.ext hC.ext hb172 (zDI hC hM2 (zNG h1)) fun vi w2 E0 hp hC hr => ?_);subst hr;refine K1 (zJ (v := .int .i64 (zBa true c-zBa false c)) rfl rfl (congrArg (fun z=>some (Value.int .i64 z)) (zm (by omega) (by omega))) (K1 (zJ (v := .int .i64 (n+(zBa true c-zBa false c))) rfl rfl (congrArg (fun z=>some (Value.int .i64 z)) (zm (by omega) (by omega))) (ag (rm [0,3] K ?_)))));exact rI fun K=>mv (K1 (j1 E0 hp.ext hb256 (zFo hp h2) fun v21 w2 E0 hp N21=>K1 (j0 E0 hb168 (zEk hp N21.poly h3) fun v22 w2 E0 N22=>ag (rl K (zR (zO (⟨rfl,f,⟨_,g,_,(kp rfl),N22.poly,E0,h,by omega,by omega,by omega⟩,by omega⟩)))))))
 · have h0:(trim P).length≤1:=by have:=of_decide_eq_false hc;omega
   clear hc;rw [if_pos h0] at h;obtain rfl:=Option.some.inj h;refine zY (zx (zl (zL (zM (rJ fun K=>ag (rm [2,3] K ?_))))));exact zE (en rfl E0 ⟨rfl,by omega,by omega⟩)
theorem zAr (n:Int):(0≤n→0≤half2 n∧half2 n≤n)∧(n≤0→half2 n≤0∧n≤half2 n):=by
 unfold half2;refine ⟨fun h => ?_,fun h => ?_⟩
 · rw [Int.tdiv_eq_ediv_of_nonneg h];omega
 · obtain ⟨m,rfl⟩:∃ m:Int,n = -m:=⟨-n,by omega⟩;rw [Int.neg_tdiv,Int.tdiv_eq_ediv_of_nonneg (by omega)];omega
theorem Routh_ok {p:Poly} {R:Int×Int×Int} (hp:IsPoly w v p) (h:routh p=some R):Ret prog 72 #[v] w (fun r _=>r = .tuple #[.int .i64 R.1,.int .i64 R.2.1,.int .i64 R.2.2] ∧ -1000000000≤R.1+R.2.1∧R.1+R.2.1≤1000000000):=by
 refine J0 76 func72 rfl (rj fun K=>ag (ag (ag (rm [0] K ?_))));refine zA (rJ fun K=>K1 (j1 E0 hp.ext hb165 (zJZ hp) fun vi w2 E0 hp hr => ?_));subst hr;refine ag (rm [0,5] K ?_);refine zA ?_;rcases zEK p with e | e | e
 · rw [e];rw [routh,if_neg (by simp [e])] at h;obtain ⟨RI,hR0,rfl⟩:=map_some h;clear h;unfold zNA at hR0;obtain ⟨⟨re,im⟩,h1,h⟩:=bind_some hR0;clear hR0;obtain ⟨g,h2,h⟩:=bind_some h;obtain ⟨axis,h3,h⟩:=bind_some h;obtain ⟨re2,h4,h⟩:=bind_some h;obtain ⟨im2,h5,h⟩:=bind_some h;obtain ⟨c,h6,h⟩:=bind_some h;simp only at h1 h2 h3 h4 h5 h6 h;obtain rfl:=Option.some.inj h;clear h;refine rI fun K=>K8 rfl (rs [0,5,18] K ?_);refine wcf rfl (sk (rJ fun K=>K1 (j0 E0 hb34 (zCY hp) fun v22 w2 E0 N22 => ?_)));have N22:=N22.poly;refine K1 (j1 E0 N22.ext hb167 (line_ok) fun v23 w2 E0 N22 N23 => ?_);have N23:=N23.poly;refine K1 (j0 E0 hb166 (along_ok N22 IsPoly.nil N23 h1) fun v24 w2 E0 hr => ?_);obtain ⟨vr,vi,rfl,hR,hI⟩:=hr;refine mv (xt rfl (xt rfl (ag (ag (rm [6,7] K ?_)))));refine rJ fun K=>mv (K1 (j2 E0 hR.ext hI.ext hb168 (zEk hR hI h2) fun v29 w2 E0 hR hI hG => ?_));have hG:=hG.poly;refine ag (rm [6,7,8] K ?_);refine rJ fun K=>K1 (j3 E0 hR.ext hI.ext hG.ext hb169 (zCC hG h3) fun vi w2 E0 hR hI hG hr => ?_);obtain ⟨rfl,ha1,ha2⟩:=hr;refine ag (rm [3,6,7,8] K ?_);refine rJ fun K=>mv (K1 (j2 E0 hI.ext hG.ext hb170 (zEN hR hG h4) fun v34 w2 E0 hI hG hR2 => ?_));clear hR;have hR:=hR2.poly;clear hR2;refine mv (mv (K1 (j2 E0 hR.ext hG.ext hb170 (zEN hI hG h5) fun v37 w2 E0 hR hG hI2 => ?_)));clear hI;have hI:=hI2.poly;clear hI2
   refine ag (ag (rm [3,6,7,8] K ?_));refine zA ?_;have hR0:=hR;have hI0:=hI;obtain ⟨rp,rc,rfl,-,-,hrl⟩:=hR0;obtain ⟨ip,ic,rfl,-,-,hil⟩:=hI0;refine rI fun K=>K1 (zI zAB rfl (mv (K1 (zI zAB rfl (K1 (zDn rfl rfl ?_))))));have hmx:(if (re2.length:Int)<(im2.length:Nat) then ((im2.length:Nat):Int) else (re2.length:Nat))=max ((re2.length:Nat):Int) (im2.length:Nat):=by split<;>omega
   rw [hmx];refine K1 (zJ (v := .int .i64 (max ((re2.length:Nat):Int) (im2.length:Nat)-1)) rfl rfl (congrArg (fun z=>some (Value.int .i64 z)) (zm (by omega) (by omega))) (ag (rs [3,6,7,8,9] K ?_)));refine rJ fun K=>mv (ag (ag (ag (rm [3,6,7,8,9,10,11,12] K ?_))));refine zA (rJ fun K=>K1 (zI zAB rfl (mv (K1 (zI zAB rfl (K8 rfl (rm [3,6,7,8,9,10,11,12,50] K ?_)))))));refine K0 rfl ?_ ?_<;>intro hc
   · have hs:im2.length<re2.length:=by have h0:=of_decide_eq_true hc;omega
     clear hc;have h7:chain re2 im2=some c:=by simpa [hs] using h6
     have hne:=(zDV h7).2;refine rI fun K=>mv (ag (ag (ag (rs [3,8,9,10,11,12] K ?_))));refine rJ fun K=>mv (K1 (j1 E0 hG.ext hb171 (by first | exact zGE hR hI h7 | exact zGE hI hR h7) fun v55 w2 E0 hG hC => ?_));have hCl:=hC.len;have b1 := @zCK true c;have b2 := @zCK false c;refine ag (rm [3,8,9,12,13] K ?_);refine rJ fun K=>mv (K1 (j2 E0 hG.ext hC.ext hb173 (zGd) fun v12 w2 E0 hG hC hr => ?_));obtain ⟨m1,rfl,hM1⟩:=hr;refine K1 (j2 E0 hG.ext hC.ext hb172 (zDI hC hM1 hne) fun vi w2 E0 hG hC hr => ?_);subst hr;refine mv (K1 (j2 E0 hG.ext hC.ext hb173 (zGd) fun v12 w2 E0 hG hC hr => ?_));obtain ⟨m2,rfl,hM2⟩:=hr;refine K1 (j2 E0 hG.ext hC.ext hb172 (zDI hC hM2 hne) fun vi w2 E0 hG hC hr => ?_);subst hr;refine K1 (zJ (v := .int .i64 (zBa true c-zBa false c)) rfl rfl (congrArg (fun z=>some (Value.int .i64 z)) (zm (by omega) (by omega))) ?_);refine K1 (zJ (v := .int .i64 ((if decide (im2.length<re2.length)=true then -1 else 1)*(zBa true c-zBa false c))) rfl rfl (by simp only [hs,decide_true,decide_false,Bool.false_eq_true,if_true,if_false];exact congrArg (fun z=>some (Value.int .i64 z)) (zm (by omega) (by omega))) ?_);refine ag (rm [3,8,9,14] K ?_);refine zA ?_;obtain ⟨turn,ht⟩:∃ t,(if decide (im2.length<re2.length)=true then -1 else 1)*(zBa true c-zBa false c)=t:=⟨_,rfl⟩
     have htb : -10000≤turn∧turn≤10000:=by rw [← ht];simp only [hs,decide_true,decide_false,Bool.false_eq_true,if_true,if_false];omega
     rw [ht];have hgl:=zCF g;have hgl2:=hG.len;refine rI fun K=>K1 (j0 E0 hb18 (zDw hG) fun vi w2 E0 hr => ?_);subst hr;refine mv (K1 (zJ (v := .int .i64 (((trim g).length:Int)-1-axis)) rfl rfl (congrArg (fun z=>some (Value.int .i64 z)) (zm (by omega) (by omega))) (K1 (zCT rfl rfl (by decide) ?_))));rw [show IntKind.i64.wrap ((((trim g).length:Int)-1-axis).tdiv 2)=half2 (((trim g).length:Int)-1-axis) from zm (by have:=zAr (((trim g).length:Int)-1-axis);unfold half2 at this;omega) (by have:=zAr (((trim g).length:Int)-1-axis);unfold half2 at this;omega)];refine mv (mv (K1 (zJ (v := .int .i64 (max ((re2.length:Nat):Int) (im2.length:Nat)-1-turn)) rfl rfl (congrArg (fun z=>some (Value.int .i64 z)) (zm (by omega) (by omega))) (K1 (zCT rfl rfl (by decide) ?_)))));rw [show IntKind.i64.wrap ((max ((re2.length:Nat):Int) (im2.length:Nat)-1-turn).tdiv 2)=half2 (max ((re2.length:Nat):Int) (im2.length:Nat)-1-turn) from zm (by have:=zAr (max ((re2.length:Nat):Int) (im2.length:Nat)-1-turn);unfold half2 at this;omega) (by have:=zAr (max ((re2.length:Nat):Int) (im2.length:Nat)-1-turn);unfold half2 at this;omega)];have q1:=zAr (((trim g).length:Int)-1-axis);have q2:=zAr (max ((re2.length:Nat):Int) (im2.length:Nat)-1-turn)
     refine K1 (zJ (v := .int .i64 (half2 (((trim g).length:Int)-1-axis)+half2 (max ((re2.length:Nat):Int) (im2.length:Nat)-1-turn))) rfl rfl (congrArg (fun z=>some (Value.int .i64 z)) (zm (by omega) (by omega))) (mv (ag (ag (ag (rs [2,3,4] K ?_))))));refine zE (zQ ?_);exact ⟨rfl,_,zBi rfl rfl rfl rfl,E0,by rw [← ht];rfl,(by simp only;omega),(by simp only;omega)⟩
   · have hs:¬ im2.length<re2.length:=by have h0:=of_decide_eq_false hc;omega
     clear hc;have h7:chain im2 re2=some c:=by simpa [hs] using h6
     have hne:=(zDV h7).2;refine sk (rJ fun K=>mv (K1 (j1 E0 hG.ext hb171 (by first | exact zGE hR hI h7 | exact zGE hI hR h7) fun v55 w2 E0 hG hC => ?_)));have hCl:=hC.len;have b1 := @zCK true c;have b2 := @zCK false c;refine ag (rm [3,8,9,12,13] K ?_);refine rJ fun K=>mv (K1 (j2 E0 hG.ext hC.ext hb173 (zGd) fun v12 w2 E0 hG hC hr => ?_));obtain ⟨m1,rfl,hM1⟩:=hr;refine K1 (j2 E0 hG.ext hC.ext hb172 (zDI hC hM1 hne) fun vi w2 E0 hG hC hr => ?_);subst hr;refine mv (K1 (j2 E0 hG.ext hC.ext hb173 (zGd) fun v12 w2 E0 hG hC hr => ?_));obtain ⟨m2,rfl,hM2⟩:=hr;refine K1 (j2 E0 hG.ext hC.ext hb172 (zDI hC hM2 hne) fun vi w2 E0 hG hC hr => ?_);subst hr;refine K1 (zJ (v := .int .i64 (zBa true c-zBa false c)) rfl rfl (congrArg (fun z=>some (Value.int .i64 z)) (zm (by omega) (by omega))) ?_);refine K1 (zJ (v := .int .i64 ((if decide (im2.length<re2.length)=true then -1 else 1)*(zBa true c-zBa false c))) rfl rfl (by simp only [hs,decide_true,decide_false,Bool.false_eq_true,if_true,if_false];exact congrArg (fun z=>some (Value.int .i64 z)) (zm (by omega) (by omega))) ?_);refine ag (rm [3,8,9,14] K ?_);refine zA ?_;obtain ⟨turn,ht⟩:∃ t,(if decide (im2.length<re2.length)=true then -1 else 1)*(zBa true c-zBa false c)=t:=⟨_,rfl⟩
     have htb : -10000≤turn∧turn≤10000:=by rw [← ht];simp only [hs,decide_true,decide_false,Bool.false_eq_true,if_true,if_false];omega
     rw [ht];have hgl:=zCF g;have hgl2:=hG.len;refine rI fun K=>K1 (j0 E0 hb18 (zDw hG) fun vi w2 E0 hr => ?_);subst hr;refine mv (K1 (zJ (v := .int .i64 (((trim g).length:Int)-1-axis)) rfl rfl (congrArg (fun z=>some (Value.int .i64 z)) (zm (by omega) (by omega))) (K1 (zCT rfl rfl (by decide) ?_))));rw [show IntKind.i64.wrap ((((trim g).length:Int)-1-axis).tdiv 2)=half2 (((trim g).length:Int)-1-axis) from zm (by have:=zAr (((trim g).length:Int)-1-axis);unfold half2 at this;omega) (by have:=zAr (((trim g).length:Int)-1-axis);unfold half2 at this;omega)];refine mv (mv (K1 (zJ (v := .int .i64 (max ((re2.length:Nat):Int) (im2.length:Nat)-1-turn)) rfl rfl (congrArg (fun z=>some (Value.int .i64 z)) (zm (by omega) (by omega))) (K1 (zCT rfl rfl (by decide) ?_)))));rw [show IntKind.i64.wrap ((max ((re2.length:Nat):Int) (im2.length:Nat)-1-turn).tdiv 2)=half2 (max ((re2.length:Nat):Int) (im2.length:Nat)-1-turn) from zm (by have:=zAr (max ((re2.length:Nat):Int) (im2.length:Nat)-1-turn);unfold half2 at this;omega) (by have:=zAr (max ((re2.length:Nat):Int) (im2.length:Nat)-1-turn);unfold half2 at this;omega)];have q1:=zAr (((trim g).length:Int)-1-axis);have q2:=zAr (max ((re2.length:Nat):Int) (im2.length:Nat)-1-turn)
     refine K1 (zJ (v := .int .i64 (half2 (((trim g).length:Int)-1-axis)+half2 (max ((re2.length:Nat):Int) (im2.length:Nat)-1-turn))) rfl rfl (congrArg (fun z=>some (Value.int .i64 z)) (zm (by omega) (by omega))) (mv (ag (ag (ag (rs [2,3,4] K ?_))))));refine zE (zQ ?_);exact ⟨rfl,_,zBi rfl rfl rfl rfl,E0,by rw [← ht];rfl,(by simp only;omega),(by simp only;omega)⟩
 · rw [e];rw [routh,if_pos (by simp [e]),e] at h;obtain rfl:=Option.some.inj h;refine rI fun K=>K8 rfl (rs [0,5,18] K ?_);refine wct rfl (rJ fun K=>ag (ag (ag (rm [2,3,4] K ?_))));refine zE (zU (zQ ?_));exact ⟨rfl,_,zBi rfl rfl rfl rfl,E0,rfl,(by show (-1000000000:Int)≤0+0;decide),(by show (0+0:Int)≤1000000000;decide)⟩
 · rw [e];rw [routh,if_pos (by simp [e]),e] at h;obtain rfl:=Option.some.inj h;refine rI fun K=>K8 rfl (rs [0,5,18] K ?_);refine wct rfl (rJ fun K=>ag (ag (ag (rm [2,3,4] K ?_))));refine zE (zU (zQ ?_));exact ⟨rfl,_,zBi rfl rfl rfl rfl,E0,rfl,(by show (-1000000000:Int)≤0+0;decide),(by show (0+0:Int)≤1000000000;decide)⟩
theorem zLv {p:Poly} {L:List Poly} (hp:IsPoly w v p) (h:asked p=0→parts p=some L):Ret prog 177 #[v] w (fun r w'=>∃ u,r = .tuple #[u,.int .i64 (asked p)]∧(asked p=0→zAv w' u L)):=by
 have E0:Ext w w:=Ext.refl w;refine J0 51 func177 rfl (rj fun K=>ag (ag (rm [0] K ?_)));refine zA (rJ fun K=>K1 (j1 E0 hp.ext hb165 (zJZ hp) fun vi w2 E0 hp hr => ?_));subst hr;refine ag (rm [0,4] K ?_);refine zA ?_;rcases zEK p with e | e | e
 · rw [e];have h:=h e;unfold parts at h;obtain ⟨p2,h1,h⟩:=bind_some h;obtain ⟨d,h2,h⟩:=bind_some h;obtain ⟨g,h3,h⟩:=bind_some h;obtain ⟨b,h4,h⟩:=bind_some h;obtain ⟨c,h5,h⟩:=bind_some h;refine rI fun K=>K8 rfl (rs [0,4,15] K ?_);refine wcf rfl (sk (rj fun K=>ag (rm [0,5] K ?_)));refine rJ fun K=>K1 (j0 E0 hb253 (zGs hp h1) fun v18 w2 E0 N18 => ?_);have N18:=N18.poly;have hpl:=N18.len;refine ag (rm [0,5] K ?_);refine rJ fun K=>K1 (j1 E0 N18.ext hb256 (zFo N18 h2) fun v20 w2 E0 N18 N20 => ?_);have N20:=N20.poly;refine ag (rm [0,5,6] K ?_);refine rJ fun K=>mv (K1 (j2 E0 N18.ext N20.ext hb168 (zEk N18 N20 h3) fun v23 w2 E0 N18 N20 N23 => ?_));have N23:=N23.poly;refine ag (rm [0,5,6,7] K ?_);refine rJ fun K=>mv (K1 (j2 E0 N20.ext N23.ext hb170 (zEN N18 N23 h4) fun v26 w2 E0 N20 N23 N26 => ?_));have N26:=N26.poly;refine mv (mv (K1 (j1 E0 N26.ext hb170 (zEN N20 N23 h5) fun v29 w2 E0 N26 N29 => ?_)));have N29:=N29.poly;refine ag (ag (rm [5,8,9] K ?_));refine zA (zF ?_);refine zg (X:=Nat) (fun f ρ w'=>∃ va vb vc A B C,Keep ρ [(5,va),(8,vb),(9,vc)]∧AccC w.heap.size w' va A∧IsPoly w' vb B∧IsPoly w' vc C∧Ext w w'∧(∃ M,zLs f B C=some M∧A++M=L)∧A.length+f≤4097) (fun f=>f) (p2.length+1) ⟨_,_,_,[],b,c,(kp rfl),AccC.nil,N26,N29,E0,⟨_,h,rfl⟩,by simp;omega⟩ ?_;clear E0 hp h hpl N18 N20 N23 N26 N29 h1 h2 h3 h4 h5
   rintro f ρ1 w1 ⟨va,vb,vc,A,B,C,hk,hA,hB,hC,E0,⟨M,h,hM⟩,hAl⟩;refine wpe_k _ hk ?_;clear hk ρ1;rcases f with _ | f
   · cases h
   unfold zLs at h;refine zA (rJ fun K=>K1 (j3 E0 hA.ext hB.ext hC.ext hb18 (zDw hB) fun vi w2 E0 hA hB hC hr => ?_));subst hr;refine K8 rfl (rm [5,8,9,32] K ?_);refine K0 rfl ?_ ?_<;>intro hc
   · have h0:¬ (trim B).length≤1:=by have:=of_decide_eq_true hc;omega
     clear hc;rw [if_neg h0] at h;obtain ⟨d2,h1,h⟩:=bind_some h;obtain ⟨rest,h2,h⟩:=bind_some h;obtain ⟨part,h3,h⟩:=bind_some h;obtain ⟨b2,h4,h⟩:=bind_some h;obtain ⟨c2,h5,h⟩:=bind_some h;obtain ⟨M2,hM3,rfl⟩:=map_some h;clear h;refine sk (zF (rJ fun K=>mv (K1 (j3 E0 hA.ext hB.ext hC.ext hb256 (zFo hB h1) fun v35 w2 E0 hA hB hC N35 => ?_))));have N35:=N35.poly;refine K1 (j2 E0 hA.ext hB.ext hb70 (zHf hC N35 h2) fun v36 w2 E0 hA hB N36 => ?_);have N36:=N36.poly;refine ag (rm [5,8,10] K ?_);refine rJ fun K=>mv (K1 (j3 E0 hA.ext hB.ext N36.ext hb168 (zEk hB N36 h3) fun v39 w2 E0 hA hB N36 N39 => ?_));have N39:=N39.poly;refine ag (rm [5,8,10,11] K ?_);refine rJ fun K=>mv ?_;refine K1 (zi (cs:=[v39]) zES info25' (by decide) (by decide) (by obtain ⟨pp,pc,rfl,-⟩:=N39;kernel_rfl) fun bb w10 hb hE hBb hs => ?_);replace E0:=E0.trans hE;replace hA:=hA.ext hE;replace hB:=hB.ext hE;replace N36:=N36.ext hE;replace N39:=N39.ext hE;clear hE hb hs;refine K1 (zEZ hA rfl hBb N39 (by omega) E0.size fun va2 w11 hX hA2 => ?_);replace E0:=hX.ext (Nat.le_refl _) E0;replace hB:=hB.keep hX.keep;replace N36:=N36.keep hX.keep;replace N39:=N39.keep hX.keep;clear hX hA hBb;refine ag (rm [5,8,10,11] K ?_);refine rI fun K=>mv (K1 (j3 E0 hA2.ext N36.ext N39.ext hb170 (zEN hB N39 h4) fun v46 w2 E0 hA2 N36 N39 N46 => ?_));have N46:=N46.poly
     refine mv (mv (K1 (j2 E0 hA2.ext N46.ext hb170 (zEN N36 N39 h5) fun v49 w2 E0 hA2 N46 N49 => ?_)));have N49:=N49.poly;refine ag (ag (rl K (zR (zO ?_))));exact ⟨rfl,f,⟨_,_,_,_,b2,c2,(kp rfl),hA2,N46,N49,E0,⟨M2,hM3,by rw [List.append_assoc];exact hM⟩,by rw [List.length_append];simp;omega⟩,by omega⟩
   · have h0:(trim B).length≤1:=by have:=of_decide_eq_false hc;omega
     clear hc;rw [if_pos h0] at h;obtain rfl:=Option.some.inj h;rw [List.append_nil] at hM;subst hM;refine zY (zx (zl (zL (zM (rJ fun K=>ag (ag (rm [2,3] K ?_)))))));exact zE (zQ ⟨rfl,_,zw rfl rfl rfl,E0,_,rfl,fun _=>hA.chain (by omega)⟩)
 · rw [e];clear h;refine rI fun K=>K8 rfl (rs [0,4,15] K ?_);refine wct rfl (rJ fun K=>ag (ag (rm [2,3] K ?_)));exact zE (zU (zQ ⟨rfl,_,zw rfl rfl rfl,E0,_,rfl,fun h=>by simp at h⟩))
 · rw [e];clear h;refine rI fun K=>K8 rfl (rs [0,4,15] K ?_);refine wct rfl (rJ fun K=>ag (ag (rm [2,3] K ?_)));exact zE (zU (zQ ⟨rfl,_,zw rfl rfl rfl,E0,_,rfl,fun h=>by simp at h⟩))
variable {a bx k n:Nat}
def zHH (n:Int) (ratio:Nat→Option Rat):Option (Poly×Int):=if n<0∨20<n then some ([],7) else (zNK n.toNat ratio).map fun l=>(l,0)
theorem quot_nat (ha:a<1000000) (hb:b<1000000) (hr:rroom (a:Rat) (b:Rat)=true):Ret prog 96 #[.int .i64 (a:Int),.int .i64 (b:Int)] w (fun r w'=>IsNum w' r ((a:Rat)/(b:Rat))) :=
 zHJ (a:=(a:Int)) (b:=(b:Int)) (by omega) (by omega) (by omega) (by omega) hr
theorem zFO {ratio:Nat→Option Rat}:∀ {k:Nat} {O R:Poly},zGP ratio k O=some R→R.length=O.length
 | 0,O,R,h=>by cases h;rfl
 | k+1,O,R,h=>by
  unfold zGP at h;obtain ⟨c,_,h⟩:=bind_some h;obtain ⟨x,_,h⟩:=bind_some h;simpa using zFO h
theorem flong_ok {p:Poly} (hp:IsPoly w v p):Ret prog 79 #[v] w (fun u _=>u = .bool (longP p)):=by
 refine J0 6 func79 rfl (rj fun K=>ag (rm [0] K ?_));refine rJ fun K=>K1 (j0 E0 hb18 (zDw hp) fun vi w2 E0 hr => ?_);subst hr;refine K8 rfl (ag (rm [2] K ?_));exact zE (en rfl E0 (congrArg Value.bool (decide_eq_decide.2 (by omega))))
theorem fasked_ok {p:Poly} (hp:IsPoly w v p):Ret prog 67 #[v] w (fun u _=>u = .int .i64 (asked p)):=by
 refine J0 10 func67 rfl (rj fun K=>ag (rm [0] K ?_));refine zA (zF (rJ fun K=>K1 (j1 E0 hp.ext hb79 (flong_ok hp) fun vi w2 E0 hp hr => ?_)));subst hr;refine ag (rm [0,3] K ?_);refine K0 rfl ?_ ?_<;>intro hc
 · have h41:41<(trim p).length:=of_decide_eq_true (show longP p=true from hc);clear hc;refine rj fun K=>ag (rm [2] K ?_);refine zE (zZ (zU (zQ ?_)));exact ⟨rfl,_,zj rfl rfl,E0,by rw [asked,if_pos h41];rfl⟩
 · have h41:¬ 41<(trim p).length:=of_decide_eq_false (show longP p=false from hc);clear hc;refine rJ fun K=>K1 (j0 E0 hb18 (zDw hp) fun vi w2 E0 hr => ?_);subst hr;refine K8 rfl (ag (rm [6] K ?_));refine K0 rfl ?_ ?_<;>intro hc
   · have h0:trim p=[]:=List.eq_nil_of_length_eq_zero (by have:=of_decide_eq_true hc;omega);clear hc;refine rj fun K=>ag (rm [2] K ?_);refine zE (zZ (zU (zQ ?_)));exact ⟨rfl,_,zj rfl rfl,E0,by rw [asked,if_neg h41,if_pos h0];rfl⟩
   · have h0:trim p≠[]:=fun e=>by rw [e] at hc;cases hc
     clear hc;refine zp (zR (zM (rj fun K=>ag (rm [2] K ?_))));refine zE (zQ ?_);exact ⟨rfl,_,zj rfl rfl,E0,by rw [asked,if_neg h41,if_neg h0];rfl⟩
theorem family_ok {n:Int} {cap:Value} {ratio:Nat→Option Rat} {R:Poly×Int} (hf:zAs prog f) (h:zHH n ratio=some R) (hsig:∀ (k:Nat) (x:Rat),n≤20→(k:Int)<n→ratio k=some x→∀ w',Ext w w'→Ret prog f #[.int .i64 (k:Int),cap] w' (fun u w2=>IsNum w2 u x)):Ret prog 94 #[.int .i64 n,.func (.func f) #[] #[cap]] w (fun r w'=>∃ u,r = .tuple #[u,.int .i64 R.2]∧IsOwn w.heap.size w' u R.1):=by
 have E0:Ext w w:=Ext.refl w;refine J0 40 func94 rfl (rj fun K=>ag (ag (rm [0,1] K ?_)));refine zA (zA ?_);rcases (show n<0∨(¬ n<0∧20<n)∨∃ m:Nat,n=m∧m≤20 from by by_cases h1:n<0;exact .inl h1;by_cases h2:20<n;exact .inr (.inl ⟨h1,h2⟩);exact .inr (.inr ⟨n.toNat,by omega,by omega⟩)) with h1 | ⟨h1,h2⟩ | ⟨m,rfl,hm⟩
 · rw [zHH,if_pos (.inl h1)] at h;obtain rfl:=Option.some.inj h;refine rI fun K=>K9 true rfl (decide_eq_true h1) (mv (K3 (K3 (pk rfl (rs [0,1,13] K ?_)))));refine wct rfl (rj fun K=>ag (ag (rm [1,4,5] K ?_)));exact zE (zU (zQ ⟨rfl,_,zw rfl rfl rfl,E0,_,rfl,IsOwn.nil⟩))
 · rw [zHH,if_pos (.inr h2)] at h;obtain rfl:=Option.some.inj h;refine rI fun K=>K9 false rfl (decide_eq_false h1) (mv (K7 (K2 (zJ (v := .bool true) rfl rfl (congrArg (fun z=>some (Value.bool z)) (decide_eq_true h2)) (pk rfl (rs [0,1,13] K ?_))))));refine wct rfl (rj fun K=>ag (ag (rm [1,4,5] K ?_)));exact zE (zU (zQ ⟨rfl,_,zw rfl rfl rfl,E0,_,rfl,IsOwn.nil⟩))
 · rw [zHH,if_neg (by omega),Int.toNat_natCast] at h;obtain ⟨R,hR,rfl⟩:=map_some h;clear h;unfold zNK at hR;have hRl:R.length=m+1:=by rw [zFO hR];simp
   refine rI fun K=>K9 false rfl (decide_eq_false (by omega)) (mv (K7 (K2 (zJ (v := .bool false) rfl rfl (congrArg (fun z=>some (Value.bool z)) (decide_eq_false (by omega))) (pk rfl (rs [0,1,13] K ?_))))));refine wcf rfl (sk (rJ fun K=>K1 (zf (b:=1) (m+1) rfl rfl rfl (by omega) ?_)));refine K1 (zAG zAc zDx rfl rfl rfl (by omega) (by omega) (by omega) fun ob w1 hb1 hE hB hs => ?_);have hob:w.heap.size≤ob:=Nat.le_of_eq hb1.symm;replace E0:=E0.trans hE;clear hE hs hb1;rw [show ((m+1:Nat):Int).toNat=m+1 from by omega] at hB ⊢;have hOB:=PBlk.zeros hB;clear hB;refine ag (rm [0,1,6] K ?_);refine rJ fun K=>mv (K1 (j1 E0 hOB.ext hb100 (fone_ok) fun v19 w2 E0 hOB N19=>K1 (zBb (ix:=m) rfl rfl (by omega) (K1 (zBC (k:=m) rfl rfl N19 hOB (by simp) fun v w2 hU hN => ?_)))));replace E0:=E0.upd hU hob;clear hOB hU;have hOB:=hN;clear hN;refine rm [0,1,6] K ?_;refine zA (rJ fun K=>K1 (zJ (v := .int .i64 ((m:Int)-1)) rfl rfl (congrArg (fun z=>some (Value.int .i64 z)) (zm (by omega) (by omega))) (ag (rm [1,6,7] K ?_))));refine zF (zg (X:=Nat) (fun k ρ w'=>Keep ρ [(1,.func (.func f) #[] #[cap]),(6,.slice (some ⟨ob,0,none⟩) (m+1) (m+1)),(7,.int .i64 (((k:Nat):Int)-1))]∧k≤m∧Ext w w'∧∃ O,O.length=m+1∧PBlk w' ob O∧zGP ratio k O=some R) (fun k=>k) m ⟨(kp rfl),Nat.le_refl _,E0,_,by simp,hOB,hR⟩ ?_)
   clear E0 hOB hR;rintro k ρ1 w1 ⟨hk,hkl,E0,O,hOl,hOB,hA⟩;refine wpe_k _ hk ?_;clear hk ρ1;refine zA (zA ?_);rcases k with _ | j
   · obtain rfl:=Option.some.inj hA;refine rI fun K=>K8 rfl (rs [1,6,7,24] K ?_);refine wcf (congrArg Value.bool (decide_eq_false (by omega))) (zY (zx (zl (zL (zM (rJ fun K=>ag (ag (rm [1,4,5,6,7] K ?_))))))));refine zE (zQ ?_);exact ⟨rfl,_,zw rfl rfl rfl,E0,_,rfl,some ⟨ob,0,none⟩,m+1,by rw [hRl];rfl,(by show O.length≤_;omega),hOB.rd,(by show O.length≤_;omega),fun _=>⟨ob,rfl,hob⟩⟩
   · have hw1:((j+1:Nat):Int)-1=(j:Int):=by omega
     have hw2:IntKind.i64.wrap ((j:Int)-1)=(j:Int)-1:=zm (by omega) (by omega);rw [hw1];unfold zGP at hA;obtain ⟨c,hc1,hA⟩:=bind_some hA;obtain ⟨x,hx1,hA⟩:=bind_some hA;obtain ⟨hr1,rfl⟩:=zCq hx1;refine rI fun K=>K8 rfl (rs [1,6,7,24] K ?_);refine wct (congrArg Value.bool (decide_eq_true (by omega))) (sk (zA (zF ?_)));have hnw:NoW [ob] _:=noWP hOB
     refine zDc [⟨12,ob,fun w=>PBlk w ob (O),fun w=>PBlk w ob (O.set j (O.getD (j+1) 0*c))⟩] [([(6,none)],none),([(7,none)],none),([(6,none)],none),([(7,none)],none),([(30,some 0)],none),([(29,some 2),(31,some 0)],none),([(32,some 0)],none),([(1,none)],none),([(7,none)],none),([(34,some 1),(35,some 0)],none),([(33,some 3),(36,some 0)],none),([(27,some 10),(28,some 9)],none),([(38,some 0),(37,some 1)],none)] mixed (by kernel_rfl) (by kernel_rfl) (by kernel_rfl) (by simp) (by kernel_rfl) (by kernel_rfl) (all1 (zHG hOB)) fun K hK=>dbv rfl (fun σ wx hE hp hk=>zC ⟨Ext.refl _,hk.1⟩) (dbv rfl (fun σ wx hE hp hk=>zC ⟨Ext.refl _,hk.1⟩) (dbv rfl (fun σ wx hE hp hk=>zC ⟨Ext.refl _,hk.1⟩) (dbv rfl (fun σ wx hE hp hk=>zC ⟨Ext.refl _,hk.1⟩) (dbv rfl (fun σ wx hE hp hk=>zf (b:=1) (j+1) hk.1 rfl rfl (by omega) ⟨Ext.refl _,rfl⟩) (dbn (fun v _=>v = .pointer (some ⟨ob,3*(j+1),none⟩)) rfl (fun _ _ _ _ _ h=>h) (fun σ wx hE hp hk=>zBb hk.1 hk.2.1 (by omega) ⟨Ext.refl _,rfl⟩) ?_)))));refine dbn (fun v w'=>IsNum w' v (O.getD (j+1) 0)) rfl (fun _ _ _ h1 hx h=>h.extS hx (hnw.ext h1)) (fun σ wx hE hp hk=>zDF hk.1 rfl (hp _ (List.mem_singleton.2 rfl) (by show _<(12:Nat);decide)) (by omega) fun v h=>⟨Ext.refl _,h⟩) ?_
     refine dbv rfl (fun σ wx hE hp hk=>zC ⟨Ext.refl _,hk.1⟩) (dbv rfl (fun σ wx hE hp hk=>zC ⟨Ext.refl _,hk.1⟩) (dbn (fun v w'=>IsNum w' v c) rfl (fun _ _ _ h1 hx h=>h.extS hx (hnw.ext h1)) (fun σ wx hE hp hk=>zBm hk.1 hf (CallK.eq2 hk.2.1 rfl (CallK.of_ret (hsig j c (by omega) (by omega) hc1 wx (E0.updS hE hob)) fun v w2 hX hr=>⟨hX,hr⟩))) (dbn (fun v w'=>IsNum w' v (O.getD (j+1) 0*c)) rfl (fun _ _ _ h1 hx h=>h.extS hx (hnw.ext h1)) (fun σ wx hE hp hk=>zH hb101 (CallK.of_ret (zEi hk.1 hk.2.1 hr1) fun v w2 hX hr=>⟨hX,hr⟩) rfl) (dbn (fun v _=>v = .pointer (some ⟨ob,3*j,none⟩)) rfl (fun _ _ _ _ _ h=>h) (fun σ wx hE hp hk=>zBb hk.1 hk.2.1 (by omega) ⟨Ext.refl _,rfl⟩) (dbs _ rfl (fun σ wx hE hpre hk=>zBC hk.1 rfl hk.2.1 hpre (by omega) fun v w2 hU hN=>⟨hU,hN⟩) (zKJ (hK _ fun wq hS hP => ?_)))))));rintro _ rfl _ rfl _ rfl _ rfl _ rfl v32 N32 v33 N33 _ rfl _ rfl v36 N36 v37 N37 v38 N38 _ _;refine zh ?_;obtain ⟨hN4,-⟩:=hP;replace E0:=E0.updS hS hob;clear hOB hS;have hOB:=hN4;clear hN4;refine zR (zM (K5 [1,6,7] ?_));exact rI fun K=>K8 rfl (ag (rl K (zO (⟨rfl,j,⟨⟨rfl,rfl,rfl,rfl,rfl,congrArg (Value.int .i64) hw2,trivial⟩,by omega,E0,_,by simp [hOl],hOB,hA⟩,by omega⟩))))
theorem Bessel1_ok {x:Rat} (hn:n≤20) (hk:k<n) (hB:Blk w bx 3 [.int .i64 (n:Int)]) (h:rdiv (((2*n-k)*(k+1):Nat):Rat) ((2*(n-k):Nat):Rat)=some x):Ret prog 95 #[.int .i64 (k:Int),.pointer (some ⟨bx,0,none⟩)] w (fun r w'=>IsNum w' r x):=by
 have hb1:(2*n-k)*(k+1)<1000000:=Nat.lt_of_le_of_lt (Nat.mul_le_mul (show 2*n-k≤40 by omega) (show k+1≤20 by omega)) (by decide);refine J0 16 func95 rfl (rj fun K => ?_);refine K1 (zV zAY fun b1 w1 hb hE hB1 hs => ?_);have hgb1:w.heap.size≤b1:=by rw [hb];exact E0.size
 replace E0:=E0.trans hE;clear hE hs hb;refine rm [0,1,3] K ?_;refine zA ?_;obtain ⟨hr1,rfl⟩:=zDz h;replace hB:=hB.ext E0;refine K6 fun K=>K1 (zD zAe rfl hB rfl (K1 (zBH (a:=2) (2*n) rfl rfl rfl (by omega) (mv (K1 (zAJ (2*n-k) rfl rfl (by omega) (by omega) (mv (K1 (zf (b:=1) (k+1) rfl rfl rfl (by omega) (K1 (zBH ((2*n-k)*(k+1)) rfl rfl rfl (Nat.lt_trans hb1 (by decide)) (K1 (zD zAe rfl hB rfl (mv (K1 (zAJ (n-k) rfl rfl (by omega) (by omega) (K1 (zBH (a:=2) (2*(n-k)) rfl rfl rfl (by omega) (K1 (j1 E0 hB1.ext hb96 (quot_nat hb1 (by omega) hr1) fun v15 w2 E0 hB1 N15=>K1 (zN rfl N15 (Cell3.of hB1 rfl) fun _ w9 hU hN => ?_)))))))))))))))))))));replace E0:=E0.upd hU hgb1;obtain ⟨cs,hB4,hl4,hN4⟩:=hN;refine rs [3] K ?_;exact zE (zQ ⟨rfl,_,zv rfl rfl rfl zy hB4 hl4,E0,hN4⟩)
def zLG (n:Int):Option (Poly×Int):=zHH n (fun k=>rdiv (((2*n.toNat-k)*(k+1):Nat):Rat) ((2*(n.toNat-k):Nat):Rat))
theorem Bessel_ok {n:Int} {R:Poly×Int} (h:zLG n=some R):Ret prog 32 #[.int .i64 n] w (fun r w'=>∃ u,r = .tuple #[u,.int .i64 R.2]∧IsOwn w.heap.size w' u R.1):=by
 unfold zLG at h;have E0:Ext w w:=Ext.refl w;refine J0 9 func32 rfl (rj fun K => ?_);refine K1 (zt fun b1 w1 hb hE hB1 hs => ?_);have hgb1:w.heap.size≤b1:=by rw [hb];exact E0.size
 replace E0:=E0.trans hE;clear hE hs hb;refine ag (ag (rm [1] K ?_));refine rj fun K=>K1 (zD zAe rfl hB1 rfl (K1 (zBj (K1 (zH hb94 (CallK.of_ret (family_ok hb95 h fun k x hn hk hx w2 hE => ?_) fun v6 w2 hE hr => ?_) rfl)))))
 · obtain ⟨m,rfl⟩:∃ m:Nat,n=m:=⟨n.toNat,by omega⟩;exact Bessel1_ok (n:=m) (by omega) (by omega) (hB1.ext hE) hx
 obtain ⟨u,rfl,hu⟩:=hr;have hsz:=E0.size;replace E0:=E0.trans hE;clear hE;refine xt rfl (xt rfl (ag (ag (rm [2,3] K ?_))));exact zE (zQ ⟨rfl,_,zw rfl rfl rfl,E0,_,rfl,hu.sz hsz⟩)
end Go.Proofs.YtjiendlfobjanaaGreatDoor
