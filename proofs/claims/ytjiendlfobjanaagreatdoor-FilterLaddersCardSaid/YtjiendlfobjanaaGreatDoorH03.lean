/-
  A part of the proof: W14, W15, Poly, W16, Poly2, Range, RangeM, W17, W18, W19, W20, AppE, W21, W22, Chain, W23, Chain2, W24, W25, W26, W27, W28, W29, PolyO, Frac, W30, W31p, W31.
-/
import Derived.Test.YtjiendlfobjanaaGreatDoorH02
import Derived.ChangeKeysEq
import Derived.Laws.Cover3
import Derived.Laws.StructEq
import Derived.RangeFuncKeeps
import Derived.RangeFuncLeaves
namespace Go.Proofs.YtjiendlfobjanaaGreatDoor
open Go Go.RowKit Go.Proofs Tryz
set_option maxRecDepth 10000
set_option maxHeartbeats 2000000
attribute [local irreducible] Runs WPE CallK Ret
variable {n:Nat} {u v:Value} {w:World} {x y:Rat}
theorem zCD (a b:Nat):(a*b).log2<=a.log2+b.log2+1:=by
 by_cases h:a*b=0
 . rw [h];exact di _
 . have j:a≠0:=fun e=>h (by rw [e,gU]);have hb:b≠0:=fun e=>h (by rw [e,fW]);have h1:=(gd j).1 (gv _);have h2:=(gd hb).1 (gv _);have h3:a*b<2^(a.log2+1)*2^(b.log2+1):=Nat.mul_lt_mul'' h1 h2;rw [<- eM] at h3;have:=(gd h).2 h3;omega
theorem zKh (a b:Nat):(a+b).log2<=max a.log2 b.log2+1:=by
 by_cases e:a+b=0
 . rw [e];exact di _
 . have j:∀ n L:Nat,n.log2<=L->n<2^(L+1):=fun n L h=>by
    by_cases B:n=0
    . rw [B];exact eq dE
    . exact (gd B).1 oM
   have C:=j a (max a.log2 b.log2) (Nat.le_max_left _ _);have h3:=j b (max a.log2 b.log2) (Nat.le_max_right _ _);have h4:a+b<2^(max a.log2 b.log2+1+1):=by rw [dB 2 (max a.log2 b.log2+1)];omega
   have:=(gd e).2 h4;omega
theorem zBJ (h:rroom x y=true):x.num.natAbs.log2+x.den.log2+(y.num.natAbs.log2+y.den.log2)<1099511627776:=dh h
theorem zEJ (h:n.log2<8796093022208):Fit n:=h
structure Fits (x y:Rat):Prop where
 xn:Fit x.num.natAbs
 xd:Fit x.den
 yn:Fit y.num.natAbs
 yd:Fit y.den
 nn:Fit (x.num.natAbs*y.num.natAbs)
 nd:Fit (x.num.natAbs*y.den)
 dn:Fit (x.den*y.num.natAbs)
 dd:Fit (x.den*y.den)
 nd':Fit (y.num.natAbs*x.den)
 add:Fit (x.num.natAbs*y.den+y.num.natAbs*x.den)
theorem zIk (h:rroom x y=true):Fits x y:=by
 have e:=zBJ h;have k1:=zCD x.num.natAbs y.num.natAbs;have k2:=zCD x.num.natAbs y.den;have k3:=zCD x.den y.num.natAbs;have k4:=zCD x.den y.den;have k5:=zCD y.num.natAbs x.den;have k6:=zKh (x.num.natAbs*y.den) (y.num.natAbs*x.den);exact ⟨zEJ oM,zEJ oM,zEJ oM,zEJ oM,zEJ oM,zEJ oM,zEJ oM,zEJ oM,zEJ oM,zEJ oM⟩
theorem IsNum.form {q:Rat} (h:IsNum w v q):∃ B e C D j F,v = .agg #[.bool (decide (q<0)),.slice B e C,.slice D j F]/\(e=0↔q=0)/\(j=0↔q.den=1)/\IsW w (.slice B e C) q.num.natAbs/\IsW w (.slice D j F) (if q.den=1 then 0 else q.den):=by
 obtain ⟨n,d,rfl,G,H⟩:=h;obtain ⟨B,e,C,rfl,I⟩:=G.form;obtain ⟨D,j,F,rfl,J⟩:=H.form;refine ⟨B,e,C,D,j,F,rfl,?_,?_,G,H⟩
 . rw [I,it,fG]
 . rw [J];have:=q.den_pos;by_cases h:q.den=1
   . simp [h]
   . simp [h];omega
theorem zKq (x:Rat):decide (-x<0)=(!decide (x<0)&&decide (x≠0)):=by
 have h:=zCE x;have h2:=zCE (-x);rw [hZ] at h2;have h3:x≠0↔x.num≠0:=not_congr Rat.num_eq_zero.symm;by_cases a:x.num<0
 . rw [cZ (h.2 a),cU (fun e=>by have:=h2.1 e;omega)];rfl
 . rw [cU (fun e=>a (h.1 e))];by_cases b:x.num=0
   . rw [cU (fun e=>by have:=h2.1 e;omega),cU (fun e=>(h3.1 e) b)];rfl
   . rw [cZ (h2.2 oM),cZ (h3.2 b)];rfl
theorem IsNum.neg_mk {n d:Value} {s:Bool} (e:s=(!decide (x<0)&&decide (x≠0))) (h:IsW w n x.num.natAbs) (j:IsW w d (if x.den=1 then 0 else x.den)):IsNum w (.agg #[.bool s,n,d]) (-x) :=
 ⟨n,d,by rw [zKq,e],by rw [hZ,fx];exact h,by rw [iN];exact j⟩
theorem rabs_neg (x:Rat):decide (rabs x<0)=false:=by
 have e:=zCE x;unfold rabs;by_cases h:x<0
 . rw [cD h,zKq,cZ h];rfl
 . rw [ct h,cU h]
theorem zRM (x:Rat):(rabs x).num.natAbs=x.num.natAbs/\(rabs x).den=x.den:=by
 unfold rabs;by_cases h:x<0
 . rw [cD h,hZ,fx,iN];exact ⟨rfl,rfl⟩
 . rw [ct h];exact ⟨rfl,rfl⟩
theorem zPt (n:Int):qOf (decide (n<0)) n.natAbs 1=(n:Rat):=by
 have e:sgn (decide (n<0)) n.natAbs=n:=by
  by_cases h:n<0
  . rw [cZ h];simp only [sgn,ga];omega
  . rw [cU h];simp only [sgn,ew,fY];omega
 rw [qOf,e];exact Rat.mkRat_self (n:Rat)
theorem zMw:Fit 1:=zEJ dK
theorem Sign_ok (F:IsNum w v x):Ret prog 19 #[v] w (fun u _=>u = .int .i64 (rsign x)):=by
 obtain ⟨O,C,D,Q,U,G,rfl,j,I,J,M⟩:=F.form;refine J0 11 func19 rfl (rj ?_);refine K1 (zn (Z0 E0 fun b1 w1 E0 hgb1 hB1=>ag (rM 2 ?_)));refine zA (zF (zA ?_));rcases (show x=0\/(x≠0/\x<0)\/(x≠0/\¬ x<0) from by by_cases a:x=0;exact Or.inl a;by_cases b:x<0;exact Or.inr (Or.inl ⟨a,b⟩);exact Or.inr (Or.inr ⟨a,b⟩)) with h | ⟨h,B⟩ | ⟨h,B⟩
 . obtain rfl:=j.2 h;refine K6 (K1 (zB zDF rfl (K1 (zD zAw rfl hB1 rfl (K1 (zG zj rfl (K8 rfl (ag (rS 10 ?_)))))))));refine wct rfl (rj (ag (rM 4 ?_)));refine zE (zd (zU (zM ?_)));exact ⟨rfl,_,zZ rfl rfl,E0,by rw [h];rfl⟩
 . have H:C≠0:=fun e=>h (j.1 e);refine K6 (K1 (zB zDF rfl (K1 (zD zAw rfl hB1 rfl (K1 (zG zj rfl (K8 rfl (ag (rS 10 ?_)))))))));refine wcf (cW Value.bool (dk.2 oM)) (rj (K1 (zB zEK rfl (K1 (zD zCo rfl hB1 rfl (ag (rm [8] ?_)))))));refine wct (cW Value.bool (cZ B)) (rj (ag (rM 4 ?_)));refine zE (zd (zU (zM ?_)));exact ⟨rfl,_,zZ rfl rfl,E0,by rw [rsign,eu ((zCE x).1 B)];rfl⟩
 . have H:C≠0:=fun e=>h (j.1 e);refine K6 (K1 (zB zDF rfl (K1 (zD zAw rfl hB1 rfl (K1 (zG zj rfl (K8 rfl (ag (rS 10 ?_)))))))));refine wcf (cW Value.bool (dk.2 oM)) (rj (K1 (zB zEK rfl (K1 (zD zCo rfl hB1 rfl (ag (rm [8] ?_)))))));refine wcf (cW Value.bool (cU B)) (zw (zN (zK (rj (ag (rM 4 ?_))))));refine zE (zM ?_);exact ⟨rfl,_,zZ rfl rfl,E0,by rw [rsign,eI (by have D:=zCE x;have G:x.num≠0:=fun e=>h (fG.1 e);have V:¬ x.num<0:=fun e=>B (D.2 e);omega)];rfl⟩
theorem zNj (M:IsNum w v x):Ret prog 236 #[v] w (fun u w'=>IsNum w' u (rabs x)):=by
 obtain ⟨D,F,G,H,I,J,rfl,O,Q,e,h⟩:=M.form;refine J0 8 func236 rfl (rj ?_);refine K1 (zn (Z2 E0 e.ext h.ext fun b1 w1 E0 e h hgb1 hB1 => ?_));refine K1 (zR zAt (Z3a E0 e.ext h.ext hB1.ext hB1.lt fun b2 w2 E0 e h hB1 hgb2 ne_b1_b2 hB2=>rM 6 ?_));refine rj (K1 (zB zDF rfl (K1 (zD zAw rfl hB1 rfl (K1 (zB zGN rfl (K1 (zD zAw rfl hB1 rfl (K1 (zV (cs := #[.bool false,.slice D F G,.slice H I J]) kR ?_))))))))));refine K1 (zO rfl (⟨.slice D F G,.slice H I J,by rw [rabs_neg];rfl,by rw [(zRM x).1];exact e,by rw [(zRM x).2];exact h⟩:IsNum _ _ (rabs x)) (Cell3.of hB2 rfl) fun _ w9 hU hN => ?_);replace E0:=E0.upd hU hgb2;obtain ⟨cs,j,B,C⟩:=hN;refine rM 4 ?_;exact zE (zM ⟨rfl,_,zq rfl rfl rfl zAI j B,E0,C⟩)
theorem zLW (V:IsNum w v x):Ret prog 132 #[v] w (fun u w'=>IsNum w' u (-x)):=by
 obtain ⟨J,G,M,O,Q,U,rfl,F,Y,h,j⟩:=V.form;refine J0 17 func132 rfl (rj ?_);refine K1 (zn (Z2 E0 h.ext j.ext fun b1 w1 E0 h j hgb1 hB1 => ?_));refine K1 (zR zAt (Z3a E0 h.ext j.ext hB1.ext hB1.lt fun b2 w2 E0 h j hB1 hgb2 ne_b1_b2 hB2=>rM 6 ?_));refine zA ?_;rcases (show x<0\/¬ x<0 from iu _) with h1 | h1
 . rw [cZ h1] at hB1;refine K6 (K1 (zB zEK rfl (K1 (zD zCo rfl hB1 rfl (K1 (zp rfl (mv (K3 (K3 (K3 (K3 (pc0 rfl (K1 (zB zDF rfl (K1 (zD zAw rfl hB1 rfl (K1 (zB zGN rfl (K1 (zD zAw rfl hB1 rfl (K1 (zV (cs := #[.bool false,.slice J G M,.slice O Q U]) kR ?_))))))))))))))))))))));refine K1 (zO rfl (IsNum.neg_mk (x:=x) (by rw [cZ h1];rfl) h j) (Cell3.of hB2 rfl) fun _ X H I => ?_);replace E0:=E0.upd H hgb2;obtain ⟨cs,B,C,D⟩:=I;refine rS 4 ?_;exact zE (zM ⟨rfl,_,zq rfl rfl rfl zAI B C,E0,D⟩)
 . rw [cU h1] at hB1;refine K6 (K1 (zB zEK rfl (K1 (zD zCo rfl hB1 rfl (K1 (zp rfl (mv (K2 (zB zDF rfl (K2 (zD zAw rfl hB1 rfl (K2 (zG zj rfl (K2 (zC rfl rfl rfl (pc0 rfl (K1 (zB zDF rfl (K1 (zD zAw rfl hB1 rfl (K1 (zB zGN rfl (K1 (zD zAw rfl hB1 rfl (K1 (zV (cs := #[.bool (decide ((G:Int)>0)),.slice J G M,.slice O Q U]) kR ?_))))))))))))))))))))))))));refine K1 (zO rfl (IsNum.neg_mk (x:=x) (by rw [cU h1];by_cases e:x=0;(have:=F.2 e;subst this;simp [e]);(have:G≠0:=fun z=>e (F.1 z);simp [e];omega)) h j) (Cell3.of hB2 rfl) fun _ X H I => ?_);replace E0:=E0.upd H hgb2;obtain ⟨cs,B,C,D⟩:=I;refine rS 4 ?_;exact zE (zM ⟨rfl,_,zq rfl rfl rfl zAI B C,E0,D⟩)
theorem zSf (h:n<=9223372036854775808):Fit n:=by
 have:=zEh h;have e:(9223372036854775808:Nat).log2=63:=dK
 exact zEJ oM
theorem zMT:prog.underlying 2=some (.int .i64):=kR
theorem zNh:prog.underlying 164=some (.int .u64):=kR
theorem zDC {n:Int} (D : -9223372036854775808<=n) (F:n<=9223372036854775807):Ret prog 38 #[.int .i64 n] w (fun u w'=>IsNum w' u (n:Rat)):=by
 refine J0 16 func38 rfl (rj ?_);refine K1 (zR zAt (Z0 E0 fun b1 w1 E0 h e=>rM 5 ?_));refine zA (zA ?_);rcases (show n<0\/¬ n<0 from iu _) with h1 | h1
 . skip
   refine rI (K8 rfl (rS 21 ?_));refine wct (cW Value.bool (cZ h1)) (rJ (K1 (zBz zMT zNh rfl (K1 (zEQ rfl ?_)))));rw [show IntKind.u64.wrap (0-IntKind.u64.wrap n)=((n.natAbs:Nat):Int) from by rw [zCm,zCm];omega];refine K1 (j1 E0 e.ext yB (zGb oM) fun v2_3 w2 E0 e hw1=>K1 (j2 E0 e.ext hw1.ext yB (zHG _) fun v2_4 w3 E0 e hw1 ho1=>K1 (j3 E0 e.ext hw1.ext ho1.ext yB (zCQ hw1 ho1 dE (zSf oM) zMw) fun v2_5 w4 E0 e hw1 ho1 hq1 => ?_)));rw [show (true:Bool)=decide (n<0) from (cZ h1).symm,zPt] at hq1;refine K1 (zO rfl hq1 (Cell3.of e rfl) fun _ w9 hU hN => ?_);replace E0:=E0.upd hU h;obtain ⟨cs,j,B,C⟩:=hN;refine rM 4 ?_;exact zE (zU (zM ⟨rfl,_,zq rfl rfl rfl zAI j B,E0,C⟩))
 . skip
   refine rI (K8 rfl (rS 21 ?_));refine wcf (cW Value.bool (cU h1)) (sk (rJ (K1 (zBz zMT zNh rfl ?_))));rw [show IntKind.u64.wrap n=((n.natAbs:Nat):Int) from by rw [zCm];omega];refine K1 (j1 E0 e.ext yB (zGb oM) fun v3_2 w2 E0 e hw1=>K1 (j2 E0 e.ext hw1.ext yB (zHG _) fun v3_3 w3 E0 e hw1 ho1=>K1 (j3 E0 e.ext hw1.ext ho1.ext yB (zCQ hw1 ho1 dE (zSf oM) zMw) fun v3_4 w4 E0 e hw1 ho1 hq1 => ?_)));rw [show (false:Bool)=decide (n<0) from (cU h1).symm,zPt] at hq1;refine K1 (zO rfl hq1 (Cell3.of e rfl) fun _ w9 hU hN => ?_);replace E0:=E0.upd hU h;obtain ⟨cs,j,B,C⟩:=hN;refine rM 4 ?_;exact zE (zM ⟨rfl,_,zq rfl rfl rfl zAI j B,E0,C⟩)
theorem Mul_ok (j:IsNum w u x) (B:IsNum w v y) (D:rroom x y=true):Ret prog 101 #[u,v] w (fun r w'=>IsNum w' r (x*y)):=by
 have F:=j;have hy0:=B;obtain ⟨U,V,rfl,e,O⟩:=F;obtain ⟨X,Y,rfl,h,Q⟩:=hy0;have hf:=zIk D;refine J0 21 func101 rfl (rj ?_);refine K1 (zn (Z4 E0 j.ext B.ext e.ext h.ext fun b1 w1 E0 j B e h hgb1 hB1 => ?_));refine K1 (zn (Z5a E0 j.ext B.ext e.ext h.ext hB1.ext hB1.lt fun b2 w2 E0 j B e h hB1 hgb2 ne_b1_b2 hB2 => ?_));refine K1 (zR zAt (Z6b E0 j.ext B.ext e.ext h.ext hB1.ext hB2.ext hB1.lt hB2.lt fun C w3 E0 j B e h hB1 hB2 hgb3 ne_b1_b3 ne_b2_b3 hB3=>rM 28 ?_));refine zA ?_;have hnw:NoW [C] _:=noW1 hB3 dE
 refine zAy false [⟨16,C,Cell3 C,NumAt C (x*y)⟩] [[4],[1],[6],[1],[5,1],[4],[1],[6],[1],[5,1],[4],[1],[6],[1],[5,1],[21,11,1],[8,1]] mixed kR sM (all1 (zHb hB3 rfl)) fun K J=>bv (fun hE hk=>zB zEK hk.1 eR) (bv (fun hE hk=>zD zCo hk.1 (hB1.extS hE (nin1 ne_b1_b3)) rfl eR) (bv (fun hE hk=>zB zEK hk.1 eR) (bv (fun hE hk=>zD zCo hk.1 (hB2.extS hE (nin1 ne_b2_b3)) rfl eR) (bv (fun hE hk=>zOy zTU hk.1 hk.2.1 eR) (bv (fun hE hk=>zB zDF hk.1 eR) (bv (fun hE hk=>zD zAw hk.1 (hB1.extS hE (nin1 ne_b1_b3)) rfl eR) (bv (fun hE hk=>zB zDF hk.1 eR) (bv (fun hE hk=>zD zAw hk.1 (hB2.extS hE (nin1 ne_b2_b3)) rfl eR) (bl hnw (fun hE hk=>zGR (IsW.of_eq hk.1 (e.extS hE hnw)) (IsW.of_eq hk.2.1 (h.extS hE hnw)) hf.xn hf.yn) (bv (fun hE hk=>zh zAI hk.1 (hB1.extS hE (nin1 ne_b1_b3)) (cw rfl) eR) (bl hnw (fun hE hk=>zDc (IsNum.of_eq hk.1 (j.extS hE hnw))) (bv (fun hE hk=>zh zAI hk.1 (hB2.extS hE (nin1 ne_b2_b3)) (cw rfl) eR) (bl hnw (fun hE hk=>zDc (IsNum.of_eq hk.1 (B.extS hE hnw))) ?_)))))))))))));refine bl hnw (fun hE hk=>zGR hk.1 hk.2.1 hf.xd hf.yd) ?_
 refine bN (fun v w'=>IsNum w' v (x*y)) hnw (fun hE hk=>zJ yB (CallK.eq3 hk.1 rfl rfl (CallK.of_ret (zCQ hk.2.1 hk.2.2.1 (gt x.den_nz y.den_nz) hf.nn hf.dd) fun v w2 M D=>⟨M,by rw [q_mul];exact D⟩)) rfl) ?_;refine dss _ rfl (fun σ wx hE hpre hk=>zBY hk.1 hk.2.1 hpre) (zAJ (J _ fun wq hS hP => ?_));rintro _ rfl _ rfl _ rfl _ rfl _ rfl _ rfl _ rfl _ rfl _ rfl v14 N14 _ rfl v16 N16 _ rfl v18 N18 v19 N19 v20 N20 _ _;refine zY ?_;obtain ⟨⟨cs,G,H,I⟩,-⟩:=hP;replace E0:=E0.updS hS hgb3;refine zK (K5 [4] ?_);exact zE (zM ⟨rfl,_,zq rfl rfl rfl zAI G H,E0,I⟩)
variable {K:Value->World->Prop} {P:Program} {T T2 ty:TypeId} {af:Array Edge} {g:Option (Nat×Bool)} {k':IntKind} {pos:String} {r:Option Nat} {σ:Operand->Value}
theorem IsW.formF (h:IsW w v n) (B:Fit n):∃ p l c,v = .slice p l c/\(l=0↔n=0)/\l<=137438953473:=by
 obtain ⟨p,ds,c,C,D,F,e,j⟩:=h;refine ⟨p,ds.length,c,C,?_,e.fit (j ▸ B)⟩;rw [fe,<- j];exact e.zero.symm
theorem IsNum.formF {q:Rat} (h:IsNum w v q) (G:Fit q.num.natAbs) (H:Fit q.den):∃ B e C D j F,v = .agg #[.bool (decide (q<0)),.slice B e C,.slice D j F]/\(e=0↔q=0)/\(j=0↔q.den=1)/\IsW w (.slice B e C) q.num.natAbs/\IsW w (.slice D j F) (if q.den=1 then 0 else q.den)/\e<=137438953473/\j<=137438953473:=by
 obtain ⟨n,d,rfl,I,J⟩:=h;have hfd':Fit (if q.den=1 then 0 else q.den):=H.le (by split<;>omega);obtain ⟨B,e,C,rfl,M,b1⟩:=I.formF G;obtain ⟨D,j,F,rfl,O,b2⟩:=J.formF hfd';refine ⟨B,e,C,D,j,F,rfl,?_,?_,I,J,b1,b2⟩
 . rw [M,it,fG]
 . rw [O];have:=q.den_pos;by_cases h:q.den=1
   . simp [h]
   . simp [h];omega
theorem zLG {d:Option Tmp} {x y:Operand} {k:IntKind} {a b:Int} (B:σ x = .int k a) (C:σ y = .int k' b) (D:K (.int k (if b<a then b else a)) w) :
 Runs P r ⟨d,.call { callee := .builtin .min,args := #[x,y],argTypes := #[T,T2] },ty,pos,af,g⟩ σ w K:=by
 refine zy (fun _ e=>by cases e) ?_ D;simp [execOp,resolve,B,C,invoke,builtin,Builtin.min_,Builtin.min2]
theorem zFd {d:Option Tmp} {x y:Operand} {k:IntKind} {a b:Int} (B:σ x = .int k a) (C:σ y = .int k' b) (D:K (.int k (if a<b then b else a)) w) :
 Runs P r ⟨d,.call { callee := .builtin .max,args := #[x,y],argTypes := #[T,T2] },ty,pos,af,g⟩ σ w K:=by
 refine zy (fun _ e=>by cases e) ?_ D;simp [execOp,resolve,B,C,invoke,builtin,Builtin.max_,Builtin.max2]
def rcmpI (x y:Rat):Int:=if x<y then -1 else if x=y then 0 else 1
theorem zNT {c:Int} (h:(x.num*y.den<y.num*x.den/\c = -1)\/(x.num*y.den=y.num*x.den/\c=0)\/(y.num*x.den<x.num*y.den/\c=1)):c=rcmpI x y:=by
 unfold rcmpI;have C:=Rat.lt_iff x y;have he:x=y->x.num*y.den=y.num*x.den:=fun e=>by rw [e]
 rcases h with ⟨B,j⟩ | ⟨B,j⟩ | ⟨B,j⟩
 . rw [cD (C.2 B),j]
 . have F:x=y:=by
    have G:=Rat.mkRat_self x;have e2:=Rat.mkRat_self y;rw [<- G,<- e2];exact (Rat.mkRat_eq_iff x.den_nz y.den_nz).2 B
   have D:¬ x<y:=fun e=>by have:=C.1 e;omega
   rw [ct D,cD F,j]
 . have D:¬ x<y:=fun e=>by have:=C.1 e;omega
   have H:¬ x=y:=fun e=>by have:=he e;omega
   rw [ct D,ct H,j]
theorem cmp_signs (h:rsign x≠rsign y):(if (-1:Int)<(if IntKind.i64.wrap (rsign x-rsign y)<1 then IntKind.i64.wrap (rsign x-rsign y) else 1) then (if IntKind.i64.wrap (rsign x-rsign y)<1 then IntKind.i64.wrap (rsign x-rsign y) else 1) else -1)=rcmpI x y:=by
 have j:(0:Int)<x.den:=by have:=x.den_pos;omega
 have B:(0:Int)<y.den:=by have:=y.den_pos;omega
 refine zNT ?_;unfold rsign at h ⊢;have pos:∀ {a b:Int},0<a->0<b->0<a*b:=fun h1 h2=>Int.mul_pos h1 h2;have e:∀ {a b:Int},a<0->0<b->a*b<0:=fun h1 h2=>Int.mul_neg_of_neg_of_pos h1 h2;have zer:∀ {a b:Int},a=0->a*b=0:=fun h1=>by rw [h1,Int.zero_mul]
 rcases gO x.num 0 with a | a | a<;>rcases gO y.num 0 with b | b | b
 . rw [eu a,eu b] at h;exact absurd rfl h
 . rw [eu a,b];exact Or.inl ⟨by have:=e a B;omega,dE⟩
 . rw [eu a,eI b];exact Or.inl ⟨by have:=e a B;have:=pos b j;omega,dE⟩
 . rw [a,eu b];exact Or.inr (Or.inr ⟨by have:=e b j;omega,dE⟩)
 . rw [a,b] at h;exact absurd rfl h
 . rw [a,eI b];exact Or.inl ⟨by have:=pos b j;omega,dE⟩
 . rw [eI a,eu b];exact Or.inr (Or.inr ⟨by have:=pos a B;have:=e b j;omega,dE⟩)
 . rw [eI a,b];exact Or.inr (Or.inr ⟨by have:=pos a B;omega,dE⟩)
 . rw [eI a,eI b] at h;exact absurd rfl h
theorem cmp_same {j:Int} (h:rsign x=rsign y) (H:CmpIs j (x.num.natAbs*y.den) (y.num.natAbs*x.den)):IntKind.i64.wrap (rsign x*(if (-1:Int)<(if j<1 then j else 1) then (if j<1 then j else 1) else -1))=rcmpI x y:=by
 have I:(if (-1:Int)<(if j<1 then j else 1) then (if j<1 then j else 1) else -1)=(if j<0 then -1 else if j=0 then 0 else 1):=by
  split<;>split<;>split<;>omega
 rw [I];obtain ⟨D,c2⟩:=H;have ex:(x.num.natAbs*y.den:Nat)=(x.num*y.den).natAbs:=by rw [ey];rfl
 have J:(y.num.natAbs*x.den:Nat)=(y.num*x.den).natAbs:=by rw [ey];rfl
 rw [ex,J] at D c2;have F:(0:Int)<x.den:=by have:=x.den_pos;omega
 have G:(0:Int)<y.den:=by have:=y.den_pos;omega
 have pos:∀ {a b:Int},0<a->0<b->0<a*b:=fun h1 h2=>Int.mul_pos h1 h2;have neg:∀ {a b:Int},a<0->0<b->a*b<0:=fun h1 h2=>Int.mul_neg_of_neg_of_pos h1 h2;refine zNT ?_;unfold rsign at h ⊢;rcases gO x.num 0 with a | a | a
 . rw [eu a] at h ⊢;have b:y.num<0:=Int.sign_eq_neg_one_iff_neg.1 h.symm;have k1:=neg a G;have k2:=neg b F;by_cases B:j<0
   . rw [cD B];have:=D.1 B;exact Or.inr (Or.inr ⟨oM,dE⟩)
   . rw [ct B];by_cases C:j=0
     . rw [cD C];have:=c2.1 C;exact Or.inr (Or.inl ⟨oM,dE⟩)
     . rw [ct C];exact Or.inl ⟨by have M:¬ (x.num * ↑y.den).natAbs<(y.num * ↑x.den).natAbs:=fun e=>B (D.2 e);have O:¬ (x.num * ↑y.den).natAbs=(y.num * ↑x.den).natAbs:=fun e=>C (c2.2 e);omega,dE⟩
 . rw [a] at h ⊢;have b:y.num=0:=fU.1 h.symm;rw [b];exact Or.inr (Or.inl ⟨sM,by rw [Int.sign_zero,Int.zero_mul];rfl⟩)
 . rw [eI a] at h ⊢;have b:0<y.num:=Int.sign_eq_one_iff_pos.1 h.symm;have k1:=pos a G;have k2:=pos b F;by_cases B:j<0
   . rw [cD B];have:=D.1 B;exact Or.inl ⟨oM,dE⟩
   . rw [ct B];by_cases C:j=0
     . rw [cD C];have:=c2.1 C;exact Or.inr (Or.inl ⟨oM,dE⟩)
     . rw [ct C];exact Or.inr (Or.inr ⟨by have M:¬ (x.num * ↑y.den).natAbs<(y.num * ↑x.den).natAbs:=fun e=>B (D.2 e);have O:¬ (x.num * ↑y.den).natAbs=(y.num * ↑x.den).natAbs:=fun e=>C (c2.2 e);omega,dE⟩)
theorem zFH (I:IsNum w u x) (J:IsNum w v y) (U:rroom x y=true):Ret prog 146 #[u,v] w (fun r w'=>IsNum w' r (x+y)):=by
 have G:=zIk U;obtain ⟨p1,l1,k1,p2,l2,k2,rfl,aH,ar,D,aI,aJ,aK⟩:=I.formF G.xn G.xd;obtain ⟨p3,l3,k3,p4,l4,k4,rfl,aM,au,F,aN,aO,aP⟩:=J.formF G.yn G.yd;refine J0 66 func146 rfl (rj ?_);refine K1 (zn (Z4 E0 I.ext J.ext D.ext F.ext fun b1 w1 E0 I J D F hgb1 j => ?_));refine K1 (zn (Z5a E0 I.ext J.ext D.ext F.ext j.ext j.lt fun b2 w2 E0 I J D F j hgb2 ne_b1_b2 B => ?_));refine K1 (zR zAt (Z6b E0 I.ext J.ext D.ext F.ext j.ext B.ext j.lt B.lt fun H w3 E0 I J D F j B hgb3 ne_b1_b3 ne_b2_b3 C=>rM 28 ?_));refine zA (zAe [[4],[1],[6],[1],[],[7],[5],[5]] mixed kR fun K V=>du (fun hE h=>zB zDF h.1 eR) (du (fun hE h=>zD zAw h.1 (j.ext hE) rfl eR) (du (fun hE h=>zB zDF h.1 eR) (du (fun hE h=>zD zAw h.1 (B.ext hE) rfl eR) (dl (fun hE h=>zHG _) (dA aL (dA aL (dC (fun v w'=>IsW w' v (1)) (fun hE h=>zr (eX h.1)) (zAJ (V _ fun wq hE => ?_))))))))));rintro _ rfl _ rfl _ rfl _ rfl v12 ae _ rfl _ rfl v7 N7;refine zY ?_;obtain ⟨E0,I,J,D,F,j,B,C⟩:=V7 hE E0 I.ext J.ext D.ext F.ext j.ext B.ext C.ext;refine zK (K5 [2,3,4,5,6,7] ?_)
 refine zBZ (fun ρ w'=>∃ v5 v6 v7,Keep ρ [(2,.pointer (some ⟨b1,0,none⟩)),(3,.pointer (some ⟨b2,0,none⟩)),(4,.pointer (some ⟨H,0,none⟩)),(5,v5),(6,v6),(7,v7)]/\Ext w w'/\IsW w' v5 (x.num.natAbs*y.den)/\IsW w' v6 (y.num.natAbs*x.den)/\IsW w' v7 (x.den*y.den)/\Blk w' b1 37 [Value.bool (decide (x<0)),Value.slice p1 l1 k1,Value.slice p2 l2 k2]/\Blk w' b2 37 [Value.bool (decide (y<0)),Value.slice p3 l3 k3,Value.slice p4 l4 k4]/\Blk w' H 37 [Value.bool false,Value.slice none 0 0,Value.slice none 0 0]) ?_ ?_
 . refine rj (K1 (zB zGN rfl (K1 (zD zAw rfl j rfl (K1 (zG zj rfl (K1 (zB zGN rfl (K1 (zD zAw rfl B rfl (K1 (zG zj rfl (K1 (zg (l2+l4) rfl rfl rfl oM (K8 rfl (rM 1048828 ?_))))))))))))))));refine K0 rfl ?_ ?_<;>intro X
   . skip
     refine zAe [[10],[6],[1],[5,1],[12],[4],[1],[5,1],[4],[1],[6],[1],[5,1],[19],[13],[5]] mixed kR fun K V=>dM aL (du (fun hE h=>zh zAI h.1 (B.ext hE) (cw rfl) eR) (dl (fun hE h=>zDc (IsNum.of_eq h.1 (J.ext hE))) (dl (fun hE h=>zGR (IsW.of_eq h.1 (D.ext hE)) h.2.1 G.xn G.yd) (dM aL (du (fun hE h=>zh zAI h.1 (j.ext hE) (cw rfl) eR) (dl (fun hE h=>zDc (IsNum.of_eq h.1 (I.ext hE))) (dl (fun hE h=>zGR (IsW.of_eq h.1 (F.ext hE)) h.2.1 G.yn G.xd) (du (fun hE h=>zh zAI h.1 (j.ext hE) (cw rfl) eR) (dl (fun hE h=>zDc (IsNum.of_eq h.1 (I.ext hE))) (du (fun hE h=>zh zAI h.1 (B.ext hE) (cw rfl) eR) (dl (fun hE h=>zDc (IsNum.of_eq h.1 (J.ext hE))) (dl (fun hE h=>zGR h.1 h.2.1 G.xd G.yd) (dC (fun v w'=>IsW w' v (x.num.natAbs*y.den)) (fun hE h=>zr (eX h.1)) ?_)))))))))))));refine dC (fun v w'=>IsW w' v (y.num.natAbs*x.den)) (fun hE h=>zr (eX h.1)) (dC (fun v w'=>IsW w' v (x.den*y.den)) (fun hE h=>zr (eX h.1)) (zAJ (V _ fun wq hE => ?_)));rintro _ rfl _ rfl v23 N23 v24 N24 _ rfl _ rfl v27 N27 v28 N28 _ rfl v30 N30 _ rfl v32 N32 v33 N33 v5 N5 v6 N6 v7 N7;refine zY ?_
     obtain ⟨E0,I,J,D,F,j,B,C,ae⟩:=V8 hE E0 I.ext J.ext D.ext F.ext j.ext B.ext C.ext ae.ext;exact zL ⟨rfl,_,_,_,(kp rfl),E0,N5,N6,N7,j,B,C⟩
   . have aQ:l2+l4=0:=by have:=de X;omega
     have ah:x.den=1:=ar.1 oM;have ai:y.den=1:=au.1 oM;refine zw (zL ?_);exact ⟨rfl,_,_,_,(kp rfl),E0,by rw [ai,fT];exact D,by rw [ah,fT];exact F,by rw [ah,ai];exact N7,j,B,C⟩
 . skip
   rintro aR w2 ⟨v5,v6,v7,h,E0,Y,Z,h7,j,B,C⟩;refine wpe_k _ h ?_;refine zA (zF (rj (K1 (zB zEK rfl (K1 (zD zCo rfl j rfl (K1 (zB zEK rfl (K1 (zD zCo rfl B rfl (K1 (runs_beql zTU rfl rfl (ag (rM 17179869436 ?_))))))))))))));refine K0 rfl ?_ ?_<;>intro X
   . have he:decide (x<0)=decide (y<0):=gC X;refine zA ?_;have hnw:NoW [H] _:=noW1 C dE;refine zAy false [⟨7,H,Cell3 H,NumAt H (x+y)⟩] [[4],[1],[10],[12],[3,1],[14],[9,3,1],[8,1]] mixed kR sM (all1 (zHb C rfl)) fun K V=>bv (fun hE h=>zB zEK h.1 eR) (bv (fun hE h=>zD zCo h.1 (j.extS hE (nin1 ne_b1_b3)) rfl eR) (bM aL (bM aL (bl hnw (fun hE h=>zRw (IsW.of_eq h.1 (Y.extS hE hnw)) (IsW.of_eq h.2.1 (Z.extS hE hnw)) G.nd G.nd') (bM aL ?_)))));refine bN (fun v w'=>IsNum w' v (x+y)) hnw (fun hE h=>zJ yB (CallK.eq3 h.1 rfl rfl (CallK.of_ret (zCQ h.2.1 (IsW.of_eq h.2.2.1 (h7.extS hE hnw)) (gt x.den_nz y.den_nz) G.add G.dd) fun v w2 hX U=>⟨hX,by rw [zMC x y he];exact U⟩)) rfl) ?_;refine dss _ rfl (fun σ wx hE hpre h=>zBY h.1 h.2.1 hpre) (zAJ (V _ fun wq hS hP => ?_));rintro _ rfl _ rfl _ rfl _ rfl v44 N44 _ rfl v46 N46 _ _;refine zY ?_;obtain ⟨⟨cs,M,O,Q⟩,-⟩:=hP;replace E0:=E0.updS hS hgb3;refine zK (K5 [2,3,4] ?_);exact zE (zd (zU (zM ⟨rfl,_,zq rfl rfl rfl zAI M O,E0,Q⟩)))
   . have he:decide (x<0)≠decide (y<0):=dk.1 X;refine rJ (mv (K1 (j6 E0 Y.ext Z.ext h7.ext j.ext B.ext C.ext yB (zSE Y Z G.nd G.nd') fun v6_2 w4 E0 Y Z h7 j B C U => ?_)));obtain ⟨cm,rfl,aj⟩:=U;refine K8 rfl (ag (rm [2,3,4,5,6,7,47] ?_));refine K0 rfl ?_ ?_<;>intro X
     . have ak:x.num.natAbs*y.den<y.num.natAbs*x.den:=aj.1.1 (dh X);refine zA ?_;have hnw:NoW [H] _:=noW1 C dE;refine zAy false [⟨7,H,Cell3 H,NumAt H (x+y)⟩] [[6],[1],[12],[10],[3,1],[14],[9,3,1],[8,1]] mixed kR sM (all1 (zHb C rfl)) fun K V=>bv (fun hE h=>zB zEK h.1 eR) (bv (fun hE h=>zD zCo h.1 (B.extS hE (nin1 ne_b2_b3)) rfl eR) (bM aL (bM aL (bl hnw (fun hE h=>zUG (IsW.of_eq h.1 (Z.extS hE hnw)) (IsW.of_eq h.2.1 (Y.extS hE hnw)) G.nd' (eU ak)) (bM aL ?_)))));refine bN (fun v w'=>IsNum w' v (x+y)) hnw (fun hE h=>zJ yB (CallK.eq3 h.1 rfl rfl (CallK.of_ret (zCQ h.2.1 (IsW.of_eq h.2.2.1 (h7.extS hE hnw)) (gt x.den_nz y.den_nz) (G.nd'.le (iL _ _)) G.dd) fun v w2 hX U=>⟨hX,by rw [zIp x y he (eU ak)];exact U⟩)) rfl) ?_;refine dss _ rfl (fun σ wx hE hpre h=>zBY h.1 h.2.1 hpre) (zAJ (V _ fun wq hS hP => ?_));rintro _ rfl _ rfl _ rfl _ rfl v56 N56 _ rfl v58 N58 _ _;refine zY ?_;obtain ⟨⟨cs,M,O,Q⟩,-⟩:=hP;replace E0:=E0.updS hS hgb3;refine zK (K5 [2,3,4] ?_);exact zE (zd (zU (zM ⟨rfl,_,zq rfl rfl rfl zAI M O,E0,Q⟩)))
     . have al:y.num.natAbs*x.den<=x.num.natAbs*y.den:=ft fun e=>de X (aj.1.2 e);refine zw (zN (zK (zA ?_)));have hnw:NoW [H] _:=noW1 C dE;refine zAy false [⟨7,H,Cell3 H,NumAt H (x+y)⟩] [[4],[1],[10],[12],[3,1],[14],[9,3,1],[8,1]] mixed kR sM (all1 (zHb C rfl)) fun K V=>bv (fun hE h=>zB zEK h.1 eR) (bv (fun hE h=>zD zCo h.1 (j.extS hE (nin1 ne_b1_b3)) rfl eR) (bM aL (bM aL (bl hnw (fun hE h=>zUG (IsW.of_eq h.1 (Y.extS hE hnw)) (IsW.of_eq h.2.1 (Z.extS hE hnw)) G.nd al) (bM aL ?_)))));refine bN (fun v w'=>IsNum w' v (x+y)) hnw (fun hE h=>zJ yB (CallK.eq3 h.1 rfl rfl (CallK.of_ret (zCQ h.2.1 (IsW.of_eq h.2.2.1 (h7.extS hE hnw)) (gt x.den_nz y.den_nz) (G.nd.le (iL _ _)) G.dd) fun v w2 hX U=>⟨hX,by rw [zMB x y he al];exact U⟩)) rfl) ?_;refine dss _ rfl (fun σ wx hE hpre h=>zBY h.1 h.2.1 hpre) (zAJ (V _ fun wq hS hP => ?_));rintro _ rfl _ rfl _ rfl _ rfl v63 N63 _ rfl v65 N65 _ _;refine zY ?_;obtain ⟨⟨cs,M,O,Q⟩,-⟩:=hP;replace E0:=E0.updS hS hgb3;refine zK (K5 [2,3,4] ?_);exact zE (zM ⟨rfl,_,zq rfl rfl rfl zAI M O,E0,Q⟩)
theorem room_neg (x y:Rat):rroom x (-y)=rroom x y:=by
 unfold rroom sz;rw [hZ,fx,iN]
theorem zQP (e:IsNum w u x) (h:IsNum w v y) (B:rroom x y=true):Ret prog 237 #[u,v] w (fun r w'=>IsNum w' r (x-y)):=by
 have C:=e;have hy0:=h;obtain ⟨Q,U,rfl,I,J⟩:=C;obtain ⟨V,X,rfl,M,O⟩:=hy0;refine J0 9 func237 rfl (rj ?_);refine K1 (zn (Z2 E0 e.ext h.ext fun b1 w1 E0 e h hgb1 hB1 => ?_));refine K1 (zn (Z3a E0 e.ext h.ext hB1.ext hB1.lt fun b2 w2 E0 e h hB1 hgb2 ne_b1_b2 hB2 => ?_));refine K1 (zR zAt (Z4b E0 e.ext h.ext hB1.ext hB2.ext hB1.lt hB2.lt fun j w3 E0 e h hB1 hB2 hgb3 ne_b1_b3 ne_b2_b3 hB3=>rM 28 ?_));refine zA ?_;have hnw:NoW [j] _:=noW1 hB3 dE;refine zAy false [⟨4,j,Cell3 j,NumAt j (x-y)⟩] [[4],[6],[1],[5,1],[8,1]] mixed kR sM (all1 (zHb hB3 rfl)) fun K hK=>bv (fun hE hk=>zh zAI hk.1 (hB1.extS hE (nin1 ne_b1_b3)) (cw rfl) eR) (bv (fun hE hk=>zh zAI hk.1 (hB2.extS hE (nin1 ne_b2_b3)) (cw rfl) eR) (bl hnw (fun hE hk=>zLW (IsNum.of_eq hk.1 (h.extS hE hnw))) ?_));refine bN (fun v w'=>IsNum w' v (x-y)) hnw (fun hE hk=>zJ yB (CallK.of_ret (zFH (IsNum.of_eq hk.1 (e.extS hE hnw)) hk.2.1 (by rw [room_neg];exact B)) fun v w2 H B=>⟨H,by rw [iq];exact B⟩) rfl) ?_;refine dss _ rfl (fun σ wx hE hpre hk=>zBY hk.1 hk.2.1 hpre) (zAJ (hK _ fun wq hS hP => ?_));rintro _ rfl _ rfl v7 N7 v8 N8 _ _;refine zY ?_;obtain ⟨⟨cs,D,F,G⟩,-⟩:=hP;replace E0:=E0.updS hS hgb3;refine zK (K5 [4] ?_)
 exact zE (zM ⟨rfl,_,zq rfl rfl rfl zAI D F,E0,G⟩)
theorem zNm (D:IsNum w u x) (F:IsNum w v y) (O:rroom x y=true):Ret prog 37 #[u,v] w (fun r w'=>∃ q,r = .tuple #[q,.int .i64 (if y=0 then 8 else 0)]/\IsNum w' q (x/y)):=by
 have C:=zIk O;obtain ⟨p1,l1,k1,p2,l2,k2,rfl,X,Y,j,Z,aa,ab⟩:=D.formF C.xn C.xd;obtain ⟨p3,Q,k3,p4,l4,k4,rfl,J,ad,B,ae,ah,ai⟩:=F.formF C.yn C.yd;refine J0 27 func37 rfl (rj ?_);refine K1 (zn (Z4 E0 D.ext F.ext j.ext B.ext fun b1 w1 E0 D F j B hgb1 hB1 => ?_));refine K1 (zn (Z5a E0 D.ext F.ext j.ext B.ext hB1.ext hB1.lt fun b2 w2 E0 D F j B hB1 hgb2 ne_b1_b2 hB2 => ?_));refine K1 (zR zAt (Z6b E0 D.ext F.ext j.ext B.ext hB1.ext hB2.ext hB1.lt hB2.lt fun M w3 E0 D F j B hB1 hB2 hgb3 ne_b1_b3 ne_b2_b3 hB3=>ag (rM 28 ?_)));refine zA (zA ?_);rcases (show y=0\/y≠0 from iu _) with h | h
 . obtain rfl:=J.2 h;refine K6 (K1 (zB zDF rfl (K1 (zD zAw rfl hB2 rfl (K1 (zG zj rfl (K8 rfl (rS 540 ?_))))))));refine wct rfl (rj (K1 (zV (cs := #[.bool false,.slice none 0 0,.slice none 0 0]) kR (K1 (zO rfl IsNum.zero (Cell3.of hB3 rfl) fun _ w9 hU hN => ?_)))));replace E0:=E0.upd hU hgb3;obtain ⟨cs,G,H,I⟩:=hN;refine ag (rM 48 ?_);refine zE (zU (zM ?_));exact ⟨rfl,_,za rfl rfl rfl rfl zAI G H,E0,_,by rw [cD h];rfl,by rw [h,iD,Rat.inv_zero,ed];exact I⟩
 . have hl:Q≠0:=fun e=>h (J.1 e);refine K6 (K1 (zB zDF rfl (K1 (zD zAw rfl hB2 rfl (K1 (zG zj rfl (K8 rfl (rS 540 ?_))))))));refine wcf (cW Value.bool (dk.2 oM)) (sk (zA ?_));have hnw:NoW [M] _:=noW1 hB3 dE
   refine zAy false [⟨16,M,Cell3 M,NumAt M (x/y)⟩] [[4],[1],[6],[1],[5,1],[4],[1],[6],[1],[5,1],[4],[1],[6],[1],[5,1],[21,11,1],[8,1],[]] mixed kR sM (all1 (zHb hB3 rfl)) fun K U=>bv (fun hE hk=>zB zEK hk.1 eR) (bv (fun hE hk=>zD zCo hk.1 (hB1.extS hE (nin1 ne_b1_b3)) rfl eR) (bv (fun hE hk=>zB zEK hk.1 eR) (bv (fun hE hk=>zD zCo hk.1 (hB2.extS hE (nin1 ne_b2_b3)) rfl eR) (bv (fun hE hk=>zOy zTU hk.1 hk.2.1 eR) (bv (fun hE hk=>zB zDF hk.1 eR) (bv (fun hE hk=>zD zAw hk.1 (hB1.extS hE (nin1 ne_b1_b3)) rfl eR) (bv (fun hE hk=>zh zAI hk.1 (hB2.extS hE (nin1 ne_b2_b3)) (cw rfl) eR) (bl hnw (fun hE hk=>zDc (IsNum.of_eq hk.1 (F.extS hE hnw))) (bl hnw (fun hE hk=>zGR (IsW.of_eq hk.1 (j.extS hE hnw)) hk.2.1 C.xn C.yd) (bv (fun hE hk=>zh zAI hk.1 (hB1.extS hE (nin1 ne_b1_b3)) (cw rfl) eR) (bl hnw (fun hE hk=>zDc (IsNum.of_eq hk.1 (D.extS hE hnw))) (bv (fun hE hk=>zB zDF hk.1 eR) (bv (fun hE hk=>zD zAw hk.1 (hB2.extS hE (nin1 ne_b2_b3)) rfl eR) ?_)))))))))))));refine bl hnw (fun hE hk=>zGR hk.1 (IsW.of_eq hk.2.1 (B.extS hE hnw)) C.xd C.yn) ?_
   refine bN (fun v w'=>IsNum w' v (x/y)) hnw (fun hE hk=>zJ yB (CallK.eq3 hk.1 rfl rfl (CallK.of_ret (zCQ hk.2.1 hk.2.2.1 (gt x.den_nz (fun e=>h (fG.1 (it.1 e)))) C.nd C.dn) fun v w2 V O=>⟨V,by rw [q_div x y h];exact O⟩)) rfl) ?_;refine dss _ rfl (fun σ wx hE hpre hk=>zBY hk.1 hk.2.1 hpre) (bv (fun hE hk=>zr eR) (zAJ (U _ fun wq hS hP => ?_)));rintro _ rfl _ rfl _ rfl _ rfl _ rfl _ rfl _ rfl _ rfl v19 N19 v20 N20 _ rfl v22 N22 _ rfl _ rfl v25 N25 v26 N26 _ _ _ rfl;refine zY ?_;obtain ⟨⟨cs,G,H,I⟩,-⟩:=hP;replace E0:=E0.updS hS hgb3;refine zK (K5 [4,5] ?_);refine zE (zM ?_);exact ⟨rfl,_,za rfl rfl rfl rfl zAI G H,E0,_,by rw [ct h];rfl,I⟩
theorem zEI (G:IsNum w u x) (H:IsNum w v y) (M:rroom x y=true):Ret prog 73 #[u,v] w (fun r _=>r = .int .i64 (rcmpI x y)):=by
 have I:=zIk M;obtain ⟨p1,l1,k1,p2,l2,k2,rfl,V,X,C,Y,Z,aa⟩:=G.formF I.xn I.xd;obtain ⟨p3,l3,k3,p4,l4,k4,rfl,ab,ad,D,ae,ah,ai⟩:=H.formF I.yn I.yd;refine J0 34 func73 rfl (rj ?_);refine K1 (zn (Z4 E0 G.ext H.ext C.ext D.ext fun b1 w1 E0 G H C D hgb1 B => ?_));refine K1 (zn (Z5a E0 G.ext H.ext C.ext D.ext B.ext B.lt fun b2 w2 E0 G H C D B hgb2 ne_b1_b2 F=>ag (rM 12 ?_)));refine zA (zAe [[4],[1],[6],[1],[5],[3]] mixed kR fun K hK=>du (fun j h=>zh zAI h.1 (B.ext j) (cw rfl) eR) (du (fun j h=>zJ yB (CallK.of_ret (Sign_ok (IsNum.of_eq h.1 (G.ext j))) fun v w2 O M=>⟨O,M⟩) rfl) (du (fun j h=>zh zAI h.1 (F.ext j) (cw rfl) eR) (du (fun j h=>zJ yB (CallK.of_ret (Sign_ok (IsNum.of_eq h.1 (H.ext j))) fun v w2 O M=>⟨O,M⟩) rfl) (dA aL (dA aL (zAJ (hK _ fun wq j => ?_))))))));rintro _ rfl _ rfl _ rfl _ rfl _ rfl _ rfl;refine zY ?_;obtain ⟨E0,G,H,C,D,B,F⟩:=V6 j E0 G.ext H.ext C.ext D.ext B.ext F.ext;refine zK (K5 [2,3,5,6] ?_);refine zA (rJ (mv (K8 rfl (rM 8300 ?_))));refine K0 rfl ?_ ?_<;>intro J
 . have Q:rsign x≠rsign y:=fO.1 J;refine rJ (mv (K8 rfl (K1 (zLG rfl rfl (K1 (zFd rfl rfl (ag (rm [4] ?_))))))));exact zE (zU (en rfl E0 (cW (Value.int .i64) (cmp_signs Q))))
 . have U:rsign x=rsign y:=fP.1 J;clear J;refine sk (zA (zAe [[10],[4],[1],[6],[1],[5,1],[6],[1],[4],[1],[5,1],[11,1],[1],[1],[27,1],[1]] mixed kR fun K hK=>dM aL (du (fun j h=>zB zDF h.1 eR) (du (fun j h=>zD zAw h.1 (B.ext j) rfl eR) (du (fun j h=>zh zAI h.1 (F.ext j) (cw rfl) eR) (dl (fun j h=>zDc (IsNum.of_eq h.1 (H.ext j))) (dl (fun j h=>zGR (IsW.of_eq h.1 (C.ext j)) h.2.1 I.xn I.yd) (du (fun j h=>zB zDF h.1 eR) (du (fun j h=>zD zAw h.1 (F.ext j) rfl eR) (du (fun j h=>zh zAI h.1 (B.ext j) (cw rfl) eR) (dl (fun j h=>zDc (IsNum.of_eq h.1 (G.ext j))) (dl (fun j h=>zGR (IsW.of_eq h.1 (D.ext j)) h.2.1 I.yn I.xd) ?_))))))))))));refine dl (fun j h=>zSE h.1 h.2.1 I.nd I.nd') ?_;refine dC (fun v _=>∃ c:Int,v = .int .i64 (if c<1 then c else 1)/\CmpIs c (x.num.natAbs*y.den) (y.num.natAbs*x.den)) (fun j h=>(by obtain ⟨c,e,J⟩:=h.1;exact zLG rfl e ⟨Ext.refl _,c,rfl,J⟩)) ?_;refine dC (fun v _=>∃ c:Int,v = .int .i64 (if (-1:Int)<(if c<1 then c else 1) then (if c<1 then c else 1) else -1)/\CmpIs c (x.num.natAbs*y.den) (y.num.natAbs*x.den)) (fun j h=>(by obtain ⟨c,e,J⟩:=h.1;exact zFd rfl e ⟨Ext.refl _,c,rfl,J⟩)) ?_
   refine du (u := .int .i64 (rcmpI x y)) (fun j h=>(by obtain ⟨c,e,J⟩:=h.2.1;exact zC h.1 e rfl ⟨Ext.refl _,cW (Value.int .i64) (cmp_same U J)⟩)) ?_;refine dA aL (zAJ (hK _ fun wq j => ?_));rintro _ rfl _ rfl _ rfl _ rfl v23 N23 v24 N24 _ rfl _ rfl _ rfl v28 N28 v29 N29 v30 N30 v31 N31 v32 N32 v33 N33 v4 N4;refine zY ?_;obtain ⟨E0,G,H,C,D,B,F⟩:=V6 j E0 G.ext H.ext C.ext D.ext B.ext F.ext;refine zK (K5 [4] ?_);exact zE (en rfl E0 N4)
end Go.Proofs.YtjiendlfobjanaaGreatDoor
namespace Go.Proofs.YtjiendlfobjanaaGreatDoor
open Go Go.RowKit Go.Proofs Tryz
variable {K:Value->World->Prop} {T ty:TypeId} {af:Array Edge} {b c cap i ix k o sz':Nat} {cs:List Value} {g:Option (Nat×Bool)} {l:List Rat} {pos:String} {r:Option Nat} {u v:Value} {w w':World} {σ:Operand->Value}
def PRd (w:World) (p:Option Addr) (l:List Rat):Prop :=
 l=[]\/∃ b o cs,p=some ⟨b,o,none⟩/\Blk w b 37 cs/\o+3*l.length<=cs.length/\∀ i,i<l.length->IsNum w (.agg ((cs.drop (o+3*i)).take 3).toArray) (l.getD i 0)
def IsPoly (w:World) (v:Value) (l:List Rat):Prop:=∃ p cap,v = .slice p l.length cap/\l.length<=cap/\PRd w p l/\l.length<=4096
def IsOwn (sz:Nat) (w:World) (v:Value) (l:List Rat):Prop:=∃ p cap,v = .slice p l.length cap/\l.length<=cap/\PRd w p l/\l.length<=4096/\(l≠[]->∃ b,p=some ⟨b,0,none⟩/\sz<=b)
theorem IsOwn.poly {sz:Nat} (h:IsOwn sz w v l):IsPoly w v l:=by
 obtain ⟨p,c,e,j,B,C,_⟩:=h;exact ⟨p,c,e,j,B,C⟩
theorem IsOwn.sz {sz:Nat} (h:IsOwn sz w v l) (e:sz'<=sz):IsOwn sz' w v l:=by
 obtain ⟨p,c,j,B,C,D,F⟩:=h;exact ⟨p,c,j,B,C,D,fun hn=>let ⟨b,G,H⟩:=F hn;⟨b,G,dz e H⟩⟩
theorem PRd.ext {p:Option Addr} (h:PRd w p l) (e:Ext w w'):PRd w' p l:=by
 rcases h with h | ⟨b,o,cs,j,B,C,D⟩
 . exact .inl h
 . exact .inr ⟨b,o,cs,j,B.ext e,C,fun i F=>(D i F).ext e⟩
theorem IsPoly.ext (h:IsPoly w v l) (e:Ext w w'):IsPoly w' v l:=by
 obtain ⟨p,c,j,B,C,D⟩:=h;exact ⟨p,c,j,B,C.ext e,D⟩
theorem IsOwn.ext {sz:Nat} (h:IsOwn sz w v l) (e:Ext w w'):IsOwn sz w' v l:=by
 obtain ⟨p,c,j,B,C,D,F⟩:=h;exact ⟨p,c,j,B,C.ext e,D,F⟩
theorem IsPoly.of_eq (h:v=u) (e:IsPoly w u l):IsPoly w v l:=h ▸ e
theorem IsPoly.nil:IsPoly w (.slice none 0 0) []:=⟨none,0,rfl,cX _,.inl rfl,dE⟩
theorem IsOwn.nil {sz:Nat}:IsOwn sz w (.slice none 0 0) []:=⟨none,0,rfl,cX _,.inl rfl,dE,fun h=>absurd rfl h⟩
theorem PRd.upd {p:Option Addr} (h:PRd w p l) (e:Upd b w w') (C:Blk w b 37 cs) (D:∀ a,p=some a->l≠[]->a.block≠b):PRd w' p l:=by
 rcases h with h | ⟨c,o,cs',j,F,G,H⟩
 . exact .inl h
 . by_cases B:l=[]
   . exact .inl B
   . exact .inr ⟨c,o,cs',j,F.upd e (D _ j B),G,fun i I=>(H i I).upd e C dE⟩
theorem PRd.lt {p:Option Addr} (h:PRd w p l) (e:l≠[]):∃ a,p=some a/\a.block<w.heap.size:=by
 rcases h with h | ⟨c,o,cs',j,B,C,D⟩
 . exact absurd h e
 . exact ⟨_,j,B.lt⟩
theorem PRd.ne {p:Option Addr} (h:PRd w p l) (j:w.heap.size<=b):∀ a,p=some a->l≠[]->a.block≠b:=fun a ha h0=>by
 obtain ⟨B,e,C⟩:=h.lt h0;rw [ha] at e;cases e;omega
theorem PRd.at {p:Option Addr} (h:PRd w p l) (e:i<l.length):∃ b o cs,p=some ⟨b,o,none⟩/\Blk w b 37 cs/\o+3*i+3<=cs.length/\IsNum w (.agg ((cs.drop (o+3*i)).take 3).toArray) (l.getD i 0):=by
 rcases h with h | ⟨c,o,cs',j,B,D,C⟩
 . subst h;simp at e
 . exact ⟨c,o,cs',j,B,oM,C i e⟩
theorem PRd.take {p:Option Addr} (h:PRd w p l) (n:Nat):PRd w p (l.take n):=by
 rcases h with h | ⟨b,o,cs,e,j,D,B⟩
 . exact .inl (by rw [h];simp)
 . refine .inr ⟨b,o,cs,e,j,by simp;omega,fun i C => ?_⟩;have hi':i<n/\i<l.length:=by simp at C;omega
   have:=B i hi'.2;rwa [show (l.take n).getD i 0=l.getD i 0 from by simp [hi'.1]]
theorem PRd.cells {p:Option Addr} (h:PRd w p l):∃ cs,Cells w p 37 cs/\cs.length=l.length*3/\∀ i,i<l.length->IsNum w (.agg ((cs.drop (3*i)).take 3).toArray) (l.getD i 0):=by
 rcases h with h | ⟨b,o,cs,j,B,D,C⟩
 . subst h;exact ⟨[],.inl rfl,rfl,fun i e=>by simp at e⟩
 . refine ⟨(cs.drop o).take (l.length*3),.inr ⟨b,o,cs,j,B,sM⟩,by simp;omega,fun i e => ?_⟩;have:=C i e;rwa [show (((cs.drop o).take (l.length*3)).drop (3*i)).take 3=(cs.drop (o+3*i)).take 3 from by
    rw [gy,gM,List.drop_drop,dT oM]]
def PBlk (w:World) (b:Nat) (l:List Rat):Prop:=∃ cs,Blk w b 37 cs/\3*l.length<=cs.length/\∀ i,i<l.length->IsNum w (.agg ((cs.drop (3*i)).take 3).toArray) (l.getD i 0)
theorem PBlk.ext (h:PBlk w b l) (e:Ext w w'):PBlk w' b l:=by
 obtain ⟨cs,j,B,C⟩:=h;exact ⟨cs,j.ext e,B,fun i D=>(C i D).ext e⟩
theorem PBlk.lt (h:PBlk w b l):b<w.heap.size:=by obtain ⟨cs,e,_⟩:=h;exact e.lt
theorem PBlk.rd (h:PBlk w b l):PRd w (some ⟨b,0,none⟩) l:=by
 obtain ⟨cs,e,C,j⟩:=h;exact .inr ⟨b,0,cs,rfl,e,oM,fun i B=>by rw [dW];exact j i B⟩
theorem PRd.blk (h:PRd w (some ⟨b,0,none⟩) l) (e:l≠[]):PBlk w b l:=by
 rcases h with h | ⟨c,o,cs,j,B,F,C⟩
 . exact absurd h e
 . cases j;exact ⟨cs,B,oM,fun i D=>by have:=C i D;rwa [dW] at this⟩
theorem PBlk.upd (h:PBlk w b l) (j:Upd c w w') (B:Blk w c 37 cs) (e:b≠c):PBlk w' b l:=by
 obtain ⟨cs',C,D,F⟩:=h;exact ⟨cs',C.upd j e,D,fun i G=>(F i G).upd j B dE⟩
theorem splice3 (cs:List Value) (o:Nat) (a b c:Value):zBr cs o [a,b,c]=((cs.set o a).set (o+1) b).set (o+2) c:=rfl
theorem zBb {a b c:Value} (F:3*k+3<=cs.length):((zBr cs (3*k) [a,b,c]).drop (3*i)).take 3=if i=k then [a,b,c] else (cs.drop (3*i)).take 3:=by
 rw [splice3];apply gw;intro j;by_cases e:j<3
 . rw [fk,cD e,fN];by_cases h:i=k
   . subst h;rw [cD rfl];have B:3*i<cs.length:=by omega
     have C:3*i+1<cs.length:=oM
     have D:3*i+2<cs.length:=oM
     match j,e with
     | 0,_=>simp [List.getElem?_set,B,C,D]
     | 1,_=>simp [List.getElem?_set,B,C,D]
     | 2,_=>simp [List.getElem?_set,B,C,D]
   . rw [ct h,fz oM,fz oM,fz oM,fk,cD e,fN]
 . rw [fk,ct e];split
   . rw [ez (by simp;omega)]
   . rw [fk,ct e]
section laws
variable {d:Option Tmp}
theorem zBE {x y:Operand} {q:Rat} (D:σ x = .pointer (some ⟨b,o,none⟩)) (F:o=3*k) (B:IsNum w (σ y) q) (h:PBlk w b l) (U:k<l.length)
 (G:∀ v w',Upd b w w'->PBlk w' b (l.set k q)->K v w'):Runs prog r ⟨d,.store 37 x y,ty,pos,af,g⟩ σ w K:=by
 subst F;obtain ⟨cs,h,H,I⟩:=h;have hy0:=B;obtain ⟨n,V,he,J,M⟩:=B;obtain ⟨X,O,Y,rfl,-⟩:=J;obtain ⟨Z,Q,c2,rfl,-⟩:=M;refine zc zJV D h (by rw [he];rfl) oM dE (by rw [he];rfl) fun w' hU C=>G _ w' hU ?_;rw [he] at C hy0;refine ⟨_,C,by rw [zAu,ff];exact H,fun i j => ?_⟩;rw [ff] at j;show IsNum w' (.agg (((zBr cs (3*k) [_,_,_]).drop (3*i)).take 3).toArray) _;rw [zBb oM];by_cases e:i=k
 . subst e;rw [cD rfl,show (l.set i q).getD i 0=q from by simp [j]];exact hy0.upd hU h dE
 . rw [ct e,show (l.set k q).getD i 0=l.getD i 0 from by simp [fz (eH e)]];exact (I i j).upd hU h dE
theorem zBQ {x:Operand} {q:Rat} (e:σ x = .pointer (some ⟨b,o,none⟩)) (h:Blk w b T cs) (j:o+3<=cs.length) (B:IsNum w (.agg ((cs.drop o).take 3).toArray) q) (C:∀ v,IsNum w v q->K v w) :
 Runs prog r ⟨d,.load 37 x,ty,pos,af,g⟩ σ w K:=zh zAI e h j (C _ B)
theorem zW {x:Operand} {q:Rat} (e:σ x = .pointer (some ⟨b,0,none⟩)) (h:NumAt b q w) (j:∀ v,IsNum w v q->K v w):Runs prog r ⟨d,.load 37 x,ty,pos,af,g⟩ σ w K:=by
 obtain ⟨cs,B,D,C⟩:=h;refine zBQ e B oM ?_ j;rw [eT,dF oM];exact C
theorem runs_pload {x:Operand} {p:Option Addr} (h:PRd w p l) (j:i<l.length) (e:σ x = .pointer (p.map fun a=>a.add (3*i))) (B:∀ v,IsNum w v (l.getD i 0)->K v w):Runs prog r ⟨d,.load 37 x,ty,pos,af,g⟩ σ w K:=by
 obtain ⟨b,o,cs,C,D,F,G⟩:=h.at j;rw [C] at e;exact zBQ (o:=o+3*i) (by rw [e];simp [zAm]) D F G B
theorem zAC:zBH prog 25 37 3:=by unfold zBH;exact ⟨kR,kR⟩
theorem zAs:prog.underlying 25=some (.slice 37):=kR
theorem runs_pindex {x i:Operand} {p:Option Addr} {k:IntKind} (e:PRd w p l) (h:σ x = .slice p l.length cap) (j:σ i = .int k (ix:Int)) (B:ix<l.length) (C:K (.pointer (p.map fun a=>a.add (3*ix))) w):Runs prog r ⟨d,.indexAddr 25 x i,ty,pos,af,g⟩ σ w K:=by
 obtain ⟨b,o,cs,D,F,G,H⟩:=e.at B;subst D;refine zH zAC h j oM oM ?_;rw [show o+((ix:Nat):Int).toNat*3=o+3*ix from by omega];simpa [zAm] using C
end laws
end Go.Proofs.YtjiendlfobjanaaGreatDoor
namespace Go.Proofs.YtjiendlfobjanaaGreatDoor
open Go Go.RowKit Go.Proofs Tryz
set_option maxRecDepth 10000
set_option maxHeartbeats 2000000
attribute [local irreducible] Runs WPE CallK Ret
variable {E c i k m n:Nat} {K:Value->World->Prop} {P:Program} {af:Array Edge} {cs:List Value} {g:Option (Nat×Bool)} {l:List Rat} {pos:String} {r:Option Nat} {t' ty:TypeId} {u v:Value} {w w':World} {x y:Rat} {σ:Operand->Value}
theorem up_isW {x:Value} (B:IsW w x n) (C:Fit n) (M:k<=64):Ret prog 267 #[x,.int .i64 (k:Int)] w (fun v w'=>IsW w' v (n*2^k)):=by
 obtain ⟨p,ds,c,rfl,Q,D,e,j⟩:=B;have hl:=e.fit (j ▸ C);refine (up_ok D e.1 oM oM).mono fun v w' _ h => ?_;obtain ⟨U,es,O,F,G,H,I,J,V,X,Y⟩:=h;exact ⟨_,es,_,F,G,H,I,by rw [J,j]⟩
theorem q_half (x:Rat):x*(1/2)=qOf (decide (x<0)) x.num.natAbs (x.den*2^1):=by
 rw [q_mul x (1/2),show decide ((1/2:Rat)<0)=false from by decide +kernel,show (1/2:Rat).num.natAbs=1 from by decide +kernel,show (1/2:Rat).den=2 from by decide +kernel,fT,Bool.bne_false]
theorem fit_half (e:rroom x (1/2)=true):Fit (x.den*2^1):=by
 have:=(zIk e).dd;rwa [show (1/2:Rat).den=2^1 from by decide +kernel] at this
theorem zOQ:zAG prog 47 0 0:=by unfold zAG;kernel_rfl
theorem zQp:zAG prog 47 1 3:=by unfold zAG;kernel_rfl
def zJz (w:World) (v:Value) (a b:Rat):Prop:=∃ e d1 h d2,v = .agg #[.bool (decide (a<0)),e,d1,.bool (decide (b<0)),h,d2]/\IsNum w (.agg #[.bool (decide (a<0)),e,d1]) a/\IsNum w (.agg #[.bool (decide (b<0)),h,d2]) b
theorem zJz.ext {a b:Rat} (h:zJz w v a b) (e:Ext w w'):zJz w' v a b:=by
 obtain ⟨j,d1,B,d2,C,D,F⟩:=h;exact ⟨j,d1,B,d2,C,D.ext e,F.ext e⟩
theorem zFT:(prog.info? 37).map (fun i=>(i.zero,i.size,i.bytes))=some (some (.agg #[.bool false,.slice none 0 0,.slice none 0 0]),3,56):=kR
section laws
variable {d:Option Tmp}
theorem run_eqGuard_slice (e:BinOp) (t:TypeId) (x y:Operand) (p q:Option Addr) (l c h j:Nat) (w:World):(eqGuard e t x y (.slice p l c) (.slice q h j)).run P w = .ok () w:=by
 unfold eqGuard;cases e<;>simp
theorem zIQ {t e:TypeId} {x y:Operand} {p:Option Addr} {l:Nat} (h:P.underlying t=some (.slice e)) (j:σ x = .slice p l c) (B:σ y = .slice none 0 0) (C:K (.bool p.isNone) w):Runs P r ⟨d,.binOp .eql t x y t',ty,pos,af,g⟩ σ w K:=by
 refine zy (fun _ e=>by cases e) ?_ C;simp [execOp,binOp,j,B,run_eqGuard_slice,run_equal_slice_nil w t e p l c h]
theorem zCP {T:Nat} (j:P.underlying T=some (.slice E)) (B:(P.info? E).map (·.size)=some n) (C:∀ b w',b=w.heap.size->Ext w w'->w'.heap.size=b+1->K (.slice (some ⟨b,0,none⟩) 0 0) w'):Runs P r ⟨d,.buildSlice T 0 #[],ty,pos,af,g⟩ σ w K:=by
 refine zBp (fun _ e=>by cases e) (v := .slice (some ⟨w.heap.size,0,none⟩) 0 0) (w':={ w with heap:=w.heap.push (.cells #[] E) }) ?_ (C _ _ rfl (Ext.push _) sM);simp only [execOp,Instr.buildSlice];simp [run_underlying j,run_sizeOf' B,Instr.fill,newRow];exact cW (fun c=>w.alloc (Obj.cells c E)) (Array.eq_empty_of_size_eq_zero sM)
end laws
theorem zDK {e:List Value} (h:3*i+3<=cs.length):((cs++e).drop (3*i)).take 3=(cs.drop (3*i)).take 3:=by
 rw [fA oM,eV (by simp;omega)]
theorem zFx (h:m<l.length):l.take (m+1)=l.take m++[l.getD m 0]:=by
 rw [dG h];simp [h]
theorem zPP (h:m<l.length) (e:l.getD m 0=0):trim (l.take (m+1))=trim (l.take m):=by
 rw [zFx h,e];simp [trim]
theorem zRk (h:m<l.length) (e:l.getD m 0≠0):trim (l.take (m+1))=l.take (m+1):=by
 rw [zFx h];generalize l.getD m 0=x at *;simp [trim,e]
theorem zGt:rsign x=0↔x=0:=by
 unfold rsign;rw [fU,fG]
def rmaxR (x y:Rat):Rat:=if 0<rcmpI y x then y else x
theorem zTZ (e:IsNum w u x) (h:IsNum w v y) (F:rroom y x=true):Ret prog 82 #[u,v] w (fun r w'=>IsNum w' r (rmaxR x y)):=by
 have G:=e;have hy0:=h;obtain ⟨O,Q,rfl,H,I⟩:=G;obtain ⟨U,V,rfl,J,M⟩:=hy0;refine J0 11 func82 rfl (rj ?_);refine K1 (zn (Z2 E0 e.ext h.ext fun b1 w1 E0 e h hgb1 hB1 => ?_));refine K1 (zn (Z3a E0 e.ext h.ext hB1.ext hB1.lt fun b2 w2 E0 e h hB1 hgb2 ne_b1_b2 hB2 => ?_));refine K1 (zR zAt (Z4b E0 e.ext h.ext hB1.ext hB2.ext hB1.lt hB2.lt fun b3 w3 E0 e h hB1 hB2 hgb3 ne_b1_b3 ne_b2_b3 hB3=>rM 28 ?_));refine zA (rj (K1 (zh zAI rfl hB2 (cw rfl) (K1 (zh zAI rfl hB1 (cw rfl) (K1 (j5 E0 e.ext h.ext hB1.ext hB2.ext hB3.ext yB (zEI h e F) fun v1_2 w4 E0 e h hB1 hB2 hB3 F => ?_)))))));subst F;refine K8 rfl (rM 284 ?_);refine K0 rfl ?_ ?_<;>intro hc
 . have j:0<rcmpI y x:=dh hc;refine rj (K1 (zh zAI rfl hB2 (cw rfl) (K1 (zO rfl h (Cell3.of hB3 rfl) fun _ w9 hU hN => ?_))));replace E0:=E0.upd hU hgb3;obtain ⟨cs,B,C,D⟩:=hN;refine rm [4] ?_;refine zE (zU (zM ?_));exact ⟨rfl,_,zq rfl rfl rfl zAI B C,E0,by rw [rmaxR,cD j];exact D⟩
 . have j:¬ 0<rcmpI y x:=de hc;refine sk (rj (K1 (zh zAI rfl hB1 (cw rfl) (K1 (zO rfl e (Cell3.of hB3 rfl) fun _ w9 hU hN => ?_)))));replace E0:=E0.upd hU hgb3;obtain ⟨cs,B,C,D⟩:=hN;refine rm [4] ?_;refine zE (zM ?_);exact ⟨rfl,_,zq rfl rfl rfl zAI B C,E0,by rw [rmaxR,ct j];exact D⟩
theorem shifted_ok (h:IsNum w v x) (j:rroom x (1/2)=true):Ret prog 223 #[v,.int .i64 (-1)] w (fun r w'=>IsNum w' r (x*(1/2))):=by
 have G:=zIk j;have hx0:=h;obtain ⟨I,J,rfl,e,H⟩:=hx0;refine J0 26 func223 rfl (rj ?_);refine K1 (zn (Z2 E0 h.ext e.ext fun b1 w1 E0 h e hgb1 hB1 => ?_));refine K1 (zR zAt (Z3a E0 h.ext e.ext hB1.ext hB1.lt fun b2 w2 E0 h e hB1 hgb2 ne_b1_b2 hB2=>rM 22 ?_));refine zA (rJ (K8 rfl (rM 86 ?_)));refine wct rfl (zA ?_);have hnw:NoW [b2] _:=noW1 hB2 dE;refine zAy false [⟨10,b2,Cell3 b2,NumAt b2 (x*(1/2))⟩] [[4],[1],[4],[1],[4],[1],[2],[1],[5,1],[15,11,1],[8,1]] mixed kR sM (all1 (zHb hB2 rfl)) fun K hK=>bv (fun hE hk=>zB zEK hk.1 eR) (bv (fun hE hk=>zD zCo hk.1 (hB1.extS hE (nin1 ne_b1_b2)) rfl eR) (bv (fun hE hk=>zB zDF hk.1 eR) (bv (fun hE hk=>zD zAw hk.1 (hB1.extS hE (nin1 ne_b1_b2)) rfl eR) (bv (fun hE hk=>zh zAI hk.1 (hB1.extS hE (nin1 ne_b1_b2)) (cw rfl) eR) (bl hnw (fun hE hk=>zDc (IsNum.of_eq hk.1 (h.extS hE hnw))) (bM aL (bv (fun hE hk=>zEQ hk.1 eR) (bN (fun v w'=>IsW w' v (x.den*2^1)) hnw (fun hE hk=>zJ yB (CallK.eq2 rfl hk.2.1 (CallK.of_ret (up_isW (k:=1) hk.1 G.xd dE) fun v w2 B j=>⟨B,j⟩)) rfl) ?_))))))))
 refine bN (fun v w'=>IsNum w' v (x*(1/2))) hnw (fun hE hk=>zJ yB (CallK.eq3 hk.1 rfl rfl (CallK.of_ret (zCQ (IsW.of_eq hk.2.1 (e.extS hE hnw)) hk.2.2.1 (gt x.den_nz dE) G.xn (fit_half j)) fun v w2 B j=>⟨B,by rw [q_half];exact j⟩)) rfl) ?_;refine dss _ rfl (fun σ wx hE hpre hk=>zBY hk.1 hk.2.1 hpre) (zAJ (hK _ fun wq hS hP => ?_));rintro _ rfl _ rfl _ rfl _ rfl _ rfl v12 N12 _ rfl _ rfl v15 N15 v16 N16 _ _;refine zY ?_;obtain ⟨⟨cs,C,D,F⟩,-⟩:=hP;replace E0:=E0.updS hS hgb2;refine zK (K5 [4] ?_);exact zE (zU (zM ⟨rfl,_,zq rfl rfl rfl zAI C D,E0,F⟩))
theorem SpanMid_ok {a b:Rat} (F:zJz w v a b) (G:rroom a b=true) (j:rroom (a+b) (1/2)=true):Ret prog 138 #[v] w (fun r w'=>IsNum w' r ((a+b)*(1/2))):=by
 obtain ⟨H,d1,I,d2,rfl,e,h⟩:=F;refine J0 9 func138 rfl (rj ?_);refine K1 (zn (Z2 E0 e.ext h.ext fun b1 w1 E0 e h hgb1 hB1 => ?_));refine K1 (zR zAt (Z3a E0 e.ext h.ext hB1.ext hB1.lt fun b2 w2 E0 e h hB1 hgb2 ne_b1_b2 hB2=>rM 6 ?_));refine rj (K1 (zB zOQ rfl (K1 (zh zAI rfl hB1 (cw rfl) (K1 (zB zQp rfl (K1 (zh zAI rfl hB1 (cw rfl) (K1 (j4 E0 e.ext h.ext hB1.ext hB2.ext yB (zFH e h G) fun v1_4 w3 E0 e h hB1 hB2 N7=>K1 (j5 E0 e.ext h.ext hB1.ext hB2.ext N7.ext yB (shifted_ok N7 j) fun v1_5 w4 E0 e h hB1 hB2 N7 N8=>K1 (zO rfl N8 (Cell3.of hB2 rfl) fun _ w9 hU hN => ?_))))))))))));replace E0:=E0.upd hU hgb2;obtain ⟨cs,B,C,D⟩:=hN;refine rM 4 ?_;exact zE (zM ⟨rfl,_,zq rfl rfl rfl zAI B C,E0,D⟩)
theorem SpanWidth_ok {a b:Rat} (D:zJz w v a b) (F:rroom b a=true):Ret prog 147 #[v] w (fun r w'=>IsNum w' r (rabs (b-a))):=by
 obtain ⟨G,d1,H,d2,rfl,e,h⟩:=D;refine J0 9 func147 rfl (rj ?_);refine K1 (zn (Z2 E0 e.ext h.ext fun b1 w1 E0 e h hgb1 hB1 => ?_));refine K1 (zR zAt (Z3a E0 e.ext h.ext hB1.ext hB1.lt fun b2 w2 E0 e h hB1 hgb2 ne_b1_b2 hB2=>rM 6 ?_));refine rj (K1 (zB zQp rfl (K1 (zh zAI rfl hB1 (cw rfl) (K1 (zB zOQ rfl (K1 (zh zAI rfl hB1 (cw rfl) (K1 (j4 E0 e.ext h.ext hB1.ext hB2.ext yB (zQP h e F) fun v1_4 w3 E0 e h hB1 hB2 N7=>K1 (j5 E0 e.ext h.ext hB1.ext hB2.ext N7.ext yB (zNj N7) fun v1_5 w4 E0 e h hB1 hB2 N7 N8=>K1 (zO rfl N8 (Cell3.of hB2 rfl) fun _ w9 hU hN => ?_))))))))))));replace E0:=E0.upd hU hgb2;obtain ⟨cs,j,B,C⟩:=hN;refine rM 4 ?_;exact zE (zM ⟨rfl,_,zq rfl rfl rfl zAI j B,E0,C⟩)
theorem zHv (e:IsNum w u x) (h:IsNum w v y) (j:rroom x y=true):Ret prog 69 #[u,v] w (fun r w'=>IsNum w' r (x/y)):=by
 have C:=e;have hy0:=h;obtain ⟨O,Q,rfl,H,I⟩:=C;obtain ⟨U,V,rfl,J,M⟩:=hy0;refine J0 14 func69 rfl (rj ?_);refine K1 (zn (Z2 E0 e.ext h.ext fun b1 w1 E0 e h hgb1 hB1 => ?_));refine K1 (zn (Z3a E0 e.ext h.ext hB1.ext hB1.lt fun b2 w2 E0 e h hB1 hgb2 ne_b1_b2 hB2 => ?_));refine K1 (zR zAt (Z4b E0 e.ext h.ext hB1.ext hB2.ext hB1.lt hB2.lt fun b3 w3 E0 e h hB1 hB2 hgb3 ne_b1_b3 ne_b2_b3 hB3=>rM 28 ?_));refine rj (K1 (zh zAI rfl hB1 (cw rfl) (K1 (zh zAI rfl hB2 (cw rfl) (K1 (j5 E0 e.ext h.ext hB1.ext hB2.ext hB3.ext yB (zNm e h j) fun v1_2 w4 E0 e h hB1 hB2 hB3 j => ?_))))));obtain ⟨q,rfl,B⟩:=j;refine mv (xt rfl (xt rfl ?_));refine K1 (zR zAt (Z6d E0 e.ext h.ext hB1.ext hB2.ext hB3.ext B.ext hB1.lt hB2.lt hB3.lt fun b5 w5 E0 e h hB1 hB2 hB3 B hgb5 ne_b1_b5 ne_b2_b5 ne_b3_b5 hB5=>K1 (zO rfl B (Cell3.of hB5 rfl) fun _ w9 hU hN5 => ?_)));replace E0:=E0.upd hU hgb5;replace hB3:=hB3.upd hU ne_b3_b5;refine ag (rM 48 ?_);refine rj (K1 (zW rfl hN5 fun v13 hq2=>K1 (zO rfl hq2 (Cell3.of hB3 rfl) fun _ w9 hU hN => ?_)));replace E0:=E0.upd hU hgb3;obtain ⟨cs,D,F,G⟩:=hN;refine rm [4] ?_;exact zE (zM ⟨rfl,_,zq rfl rfl rfl zAI D F,E0,G⟩)
theorem fone_ok:Ret prog 100 #[] w (fun r w'=>IsNum w' r 1):=by
 refine J0 2 func100 rfl (rj ?_);refine K1 (zR zAt (Z0 E0 fun b1 w1 E0 h e=>rM 1 ?_));refine rj (K1 (j1 E0 e.ext yB (zDC dE dE) fun v1_0 w2 E0 e N1=>K1 (zO rfl N1 (Cell3.of e rfl) fun _ w9 hU hN => ?_)));replace E0:=E0.upd hU h;obtain ⟨cs,j,B,C⟩:=hN;refine rM 1 ?_;exact zE (zM ⟨rfl,_,zq rfl rfl rfl zAI j B,E0,C⟩)
theorem zLC {a b:Int} (D : -9223372036854775808<=a) (F:a<=9223372036854775807) (G : -9223372036854775808<=b) (H:b<=9223372036854775807) (I:rroom (a:Rat) (b:Rat)=true):Ret prog 96 #[.int .i64 a,.int .i64 b] w (fun r w'=>IsNum w' r ((a:Rat)/(b:Rat))):=by
 refine J0 10 func96 rfl (rj ?_);refine K1 (zR zAt (Z0 E0 fun b1 w1 E0 h e=>rM 19 ?_));refine rJ (K1 (j1 E0 e.ext yB (zDC D F) fun v1_1 w2 E0 e N6=>mv (K1 (j2 E0 e.ext N6.ext yB (zDC G H) fun v1_3 w3 E0 e N6 N8=>K1 (j3 E0 e.ext N6.ext N8.ext yB (zHv N6 N8 I) fun v1_4 w4 E0 e N6 N8 N9=>K1 (zO rfl N9 (Cell3.of e rfl) fun _ w9 hU hN => ?_))))));replace E0:=E0.upd hU h;obtain ⟨cs,j,B,C⟩:=hN;refine rm [4] ?_;exact zE (zM ⟨rfl,_,zq rfl rfl rfl zAI j B,E0,C⟩)
theorem zHi (J:IsPoly w v l):Ret prog 68 #[v] w (fun r w'=>IsOwn w.heap.size w' r l):=by
 obtain ⟨p,cap,rfl,V,j,M⟩:=J;refine J0 8 func68 rfl (rj (ag (rM 1 ?_)));refine zA (zA ?_);rcases p with _ | a
 . obtain rfl:l=[]:=by
    rcases j with h | ⟨b,o,cs,O,_⟩
    . exact h
    . cases O
   refine rI (K1 (zIQ zAs rfl rfl (rS 17 ?_)));refine wct rfl (rj (ag (rM 4 ?_)));exact zE (zU (en rfl E0 IsOwn.nil))
 . skip
   refine rI (K1 (zIQ zAs rfl rfl (rS 17 ?_)));refine wcf rfl (sk (zA ?_));rcases (show l=[]\/l≠[] from iu _) with C | C
   . subst C;refine K6 (K1 (zCP zAs zJV fun b0 w1 e B H => ?_));have hgb0:w.heap.size<=b0:=by rw [e];exact E0.size
     obtain ⟨E0,j⟩:=V1 B E0 j.ext;refine mv (K1 (zEl zAs zAs zFT rfl rfl (cX _) (ag (rS 4 ?_))));exact zE (en rfl E0 ⟨_,0,rfl,cX _,.inl rfl,dE,fun h=>absurd rfl h⟩)
   . have U:0<l.length:=eC.2 C;refine K6 (K1 (zCP zAs zJV fun b0 w1 e B H => ?_));have hgb0:w.heap.size<=b0:=by rw [e];exact E0.size
     obtain ⟨E0,j⟩:=V1 B E0 j.ext;refine mv ?_;obtain ⟨cs,D,F,G⟩:=j.cells;refine K1 (zAW zAs zAs zFT rfl dE rfl rfl (.inl rfl) rfl D F oM (by have:=zAc (0+l.length) 0;omega) fun w2 rest c hcc B I hrest H => ?_);rw [gu] at I;refine ag (rS 4 ?_);refine zE (zM ?_);refine ⟨rfl,_,zZ rfl rfl,E0.trans B,some ⟨_,0,none⟩,c,?_,oM,.inr ⟨_,0,_,rfl,I,by simp;omega,fun i Q => ?_⟩,M,fun _=>⟨_,rfl,E0.size⟩⟩
     . show Value.slice _ (0+l.length) c=_;rw [dW]
     . rw [dW,zDK oM];exact (G i Q).ext B
theorem zBS (J:IsPoly w v l):Ret prog 34 #[v] w (fun r w'=>IsOwn w.heap.size w' r (trim l)):=by
 obtain ⟨p,cap,rfl,F,G,Q⟩:=J;have E0:Ext w w:=Ext.refl w;refine J0 23 func34 rfl (rj (ag (rM 1 ?_)));refine zA (zF (zX (X:=Nat) (fun n ρ w'=>Keep ρ [(0,.slice p n cap)]/\n<=l.length/\Ext w w'/\trim (l.take n)=trim l) (fun n=>n) l.length ⟨(kp rfl),cX _,E0,by rw [ej]⟩ ?_));rintro n ρ1 w1 ⟨M,U,E0,H⟩;refine wpe_k _ M ?_;refine zA (zA ?_);rcases n with _ | m
 . skip
   refine rI (K1 (zG zAC rfl (K1 (zC (v := .bool false) rfl rfl (sB (cU oM)) (mv (K3 (K3 (K3 (K3 (K3 (K3 (K3 (K3 (pc0 rfl (rl ?_)))))))))))))));refine zK (K5 [0,7,8,9,10,11,12,13,14,15] ?_);refine wcf rfl (zT (zt (zf (zI (zK (zA ?_))))));have h:trim l=l.take 0:=by rw [<- H];rfl
   refine K6 (mv ?_);have j:(trim l).length=0:=by rw [h];simp<;>omega
   have C:=E0.size;refine K1 (j0 E0 yB (zHi (l:=trim l) ⟨p,cap,by rw [j];rfl,oM,by rw [h];exact (G.ext E0).take _,oM⟩) fun v3 w3 E0 hr => ?_);refine ag (rS 5 ?_);exact zE (en rfl E0 (hr.sz C))
 . have D:=G.ext E0;refine rI (K1 (zG zAC rfl (K1 (zC (v := .bool true) rfl rfl (sB (cZ oM)) (mv (K7 (K7 (K2 (zG zAC rfl (K2 (zAL (b:=1) m rfl rfl rfl oM ?_)))))))))));have hmin:(l.take (m+1)).length=m+1:=by simp;omega
   refine K2 (runs_pindex (l:=l.take (m+1)) (cap:=cap) (ix:=m) (D.take (m+1)) (by rw [hmin];rfl) rfl oM ?_);refine K2 (runs_pload (D.take (m+1)) (i:=m) oM rfl fun O B => ?_);rw [show (l.take (m+1)).getD m 0=l.getD m 0 from by simp] at B;refine K2 (zJ yB (CallK.of_ret (Sign_ok B) fun v13 w2 hE hr => ?_) rfl);subst hr;replace E0:=E0.trans hE;refine K2 (zC rfl rfl rfl (pc0 rfl (rS 65409 ?_)));refine K0 rfl ?_ ?_<;>intro F
   . have I:l.getD m 0=0:=zGt.1 (gC F);exact sk (zF (rI (mv (K1 (zG zAC rfl (K1 (zAL (b:=1) (m) rfl rfl rfl oM (K1 (zBa zAC rfl rfl oM oM (ag (rl (zN (zL (⟨rfl,m,⟨(kp rfl),oM,E0,(zPP oM I).symm.trans H⟩,oM⟩))))))))))))))
   . have I:l.getD m 0≠0:=fun e=>dk.1 F (zGt.2 e);have h:trim l=l.take (m+1):=by rw [<- H,zRk oM I]
     refine zT (zt (zf (zI (zK (rj (mv ?_))))));have j:(trim l).length=m+1:=by rw [h];simp<;>omega
     have C:=E0.size;refine K1 (j0 E0 yB (zHi (l:=trim l) ⟨p,cap,by rw [j];rfl,oM,by rw [h];exact (G.ext E0).take _,oM⟩) fun v3 w3 E0 hr => ?_);refine ag (rM 5 ?_);exact zE (en rfl E0 (hr.sz C))
theorem zCn (h:IsPoly w v l):Ret prog 18 #[v] w (fun r _=>r = .int .i64 (((trim l).length:Int)-1)):=by
 refine J0 7 func18 rfl (rj (ag (rM 1 ?_)));refine rJ (K1 (j0 E0 yB (zBS h) fun e w1 E0 j => ?_));obtain ⟨p,cap,rfl,_,_,B,_⟩:=j;refine K1 (zG zAC rfl (K1 (zC (v := .int .i64 (((trim l).length:Int)-1)) rfl rfl (sI (zm oM oM)) (ag (rM 4 ?_)))));exact zE (en rfl E0 rfl)
end Go.Proofs.YtjiendlfobjanaaGreatDoor
namespace Go.Proofs.YtjiendlfobjanaaGreatDoor
open Go Go.RowKit Go.Proofs Tryz
variable {A l:List Rat} {K:Value->World->Prop} {af:Array Edge} {b b2 c cap i ix k len o:Nat} {c2 v:Value} {cs:List Value} {g:Option (Nat×Bool)} {pos:String} {r:Option Nat} {ty:TypeId} {w w' w0:World} {x y z:Rat} {α β:Type} {σ:Operand->Value}
theorem zGV (h:radd x y=some z):rroom x y=true/\z=x+y:=by
 unfold radd at h;split at h
 . rename_i e;cases h;exact ⟨e,rfl⟩
 . cases h
theorem zOv (h:rsub x y=some z):rroom x y=true/\z=x-y:=by
 unfold rsub at h;split at h
 . rename_i e;cases h;exact ⟨e,rfl⟩
 . cases h
theorem zEB (h:rmul x y=some z):rroom x y=true/\z=x*y:=by
 unfold rmul at h;split at h
 . rename_i e;cases h;exact ⟨e,rfl⟩
 . cases h
theorem zFb (h:rdiv x y=some z):rroom x y=true/\z=x/y:=by
 unfold rdiv at h;split at h
 . rename_i e;cases h;exact ⟨e,rfl⟩
 . cases h
theorem bind_some {o:Option α} {f:α->Option β} {b:β} (h:o.bind f=some b):∃ a,o=some a/\f a=some b:=by
 cases o with
 | none=>cases h
 | some a=>exact ⟨a,rfl,h⟩
theorem map_some {o:Option α} {f:α->β} {b:β} (h:o.map f=some b):∃ a,o=some a/\f a=b:=by
 cases o with
 | none=>cases h
 | some a=>exact ⟨a,rfl,dj h⟩
theorem zFP (h:i<l.length):l.drop i=l.getD i 0 :: l.drop (i+1):=by
 rw [dZ h];simp [h]
theorem NumAt.extS {S:List Nat} {q:Rat} (h:NumAt b q w) (e:ExtS S w w') (j:b ∉ S) (B:NoW S w):NumAt b q w':=by
 obtain ⟨cs,C,D,F⟩:=h;exact ⟨cs,C.extS e j,D,F.extS e B⟩
theorem NumAt.upd {q:Rat} (h:NumAt b q w) (j:Upd c w w') (B:Blk w c 37 cs) (e:b≠c):NumAt b q w':=by
 obtain ⟨cs',C,D,F⟩:=h;exact ⟨cs',C.upd j e,D,F.upd j B dE⟩
theorem NumAt.lt {q:Rat} (h:NumAt b q w):b<w.heap.size:=by obtain ⟨cs,e,_⟩:=h;exact e.lt
theorem noWP (h:PBlk w b l):NoW [b] w:=by
 obtain ⟨cs,e,_⟩:=h;exact noW1 e dE
theorem PRd.extS {S:List Nat} {p:Option Addr} (h:PRd w p l) (e:ExtS S w w') (C:∀ a,p=some a->l≠[]->a.block ∉ S) (D:NoW S w):PRd w' p l:=by
 rcases h with h | ⟨c,o,cs',j,F,G,H⟩
 . exact .inl h
 . by_cases B:l=[]
   . exact .inl B
   . exact .inr ⟨c,o,cs',j,F.extS e (C _ j B),G,fun i I=>(H i I).extS e D⟩
theorem zJr {O e:List Rat} (C:PBlk w0 b O) :
 (⟨i,b,fun w=>PBlk w b O,fun w=>PBlk w b e⟩:StoreSpec).blk<w0.heap.size/\(⟨i,b,fun w=>PBlk w b O,fun w=>PBlk w b e⟩:StoreSpec).pre w0/\∀ w w',ExtS [b] w0 w->ExtS [b] w w'->w'.heap[(⟨i,b,fun w=>PBlk w b O,fun w=>PBlk w b e⟩:StoreSpec).blk]? = w.heap[(⟨i,b,fun w=>PBlk w b O,fun w=>PBlk w b e⟩:StoreSpec).blk]? ->
  ((⟨i,b,fun w=>PBlk w b O,fun w=>PBlk w b e⟩:StoreSpec).pre w->(⟨i,b,fun w=>PBlk w b O,fun w=>PBlk w b e⟩:StoreSpec).pre w')/\((⟨i,b,fun w=>PBlk w b O,fun w=>PBlk w b e⟩:StoreSpec).post w->(⟨i,b,fun w=>PBlk w b O,fun w=>PBlk w b e⟩:StoreSpec).post w'):=by
 have j:∀ (w w':World) (L:List Rat),ExtS [b] w w'->w'.heap[b]? = w.heap[b]?->PBlk w b L->PBlk w' b L:=fun w w' L B he h=>by
  obtain ⟨cs,D,F,G⟩:=h;exact ⟨cs,by show w'.heap[b]? = _;rw [he];exact D,F,fun i H=>(G i H).extS B (noW1 D dE)⟩
 exact ⟨C.lt,C,fun w w' _ B he=>⟨j w w' O B he,j w w' e B he⟩⟩
section laws
variable {d:Option Tmp}
theorem zCH {x:Operand} (e:σ x = .pointer (some ⟨b,o,none⟩)) (h:o=3*k) (j:PBlk w b l) (B:k<l.length) (C:∀ v,IsNum w v (l.getD k 0)->K v w):Runs prog r ⟨d,.load 37 x,ty,pos,af,g⟩ σ w K:=by
 subst h;obtain ⟨cs,D,G,F⟩:=j;exact zBQ e D oM (F k B) C
theorem zCV {x i:Operand} {k:IntKind} (e:σ x = .slice (some ⟨b,0,none⟩) len cap) (h:σ i = .int k (ix:Int)) (B:ix<len) (j:K (.pointer (some ⟨b,3*ix,none⟩)) w):Runs prog r ⟨d,.indexAddr 25 x i,ty,pos,af,g⟩ σ w K:=by
 refine zH zAC e h oM oM ?_;rw [show 0+((ix:Nat):Int).toNat*3=3*ix from by omega];exact j
end laws
def AccP (sz:Nat) (w:World) (v:Value) (A:List Rat):Prop :=
 ∃ p c,v = .slice p A.length c/\A.length<=c/\((A=[]/\p=none/\c=0)\/∃ b cs,p=some ⟨b,0,none⟩/\sz<=b/\Blk w b 37 cs/\cs.length=3*c/\∀ i,i<A.length->IsNum w (.agg ((cs.drop (3*i)).take 3).toArray) (A.getD i 0))
theorem AccP.nil {sz:Nat}:AccP sz w (.slice none 0 0) []:=⟨none,0,rfl,cX _,.inl ⟨rfl,rfl,rfl⟩⟩
theorem AccP.ext {sz:Nat} (h:AccP sz w v A) (j:Ext w w'):AccP sz w' v A:=by
 obtain ⟨p,c,B,C,e⟩:=h;refine ⟨p,c,B,C,?_⟩;rcases e with e | ⟨b,cs,D,F,G,H,I⟩
 . exact .inl e
 . exact .inr ⟨b,cs,D,F,G.ext j,H,fun i J=>(I i J).ext j⟩
theorem AccP.own {sz:Nat} (h:AccP sz w v A) (j:A.length<=4096):IsOwn sz w v A:=by
 obtain ⟨p,c,B,C,G⟩:=h;rcases G with ⟨e,D,F⟩ | ⟨b,cs,e,D,F,M,H⟩
 . exact ⟨p,c,B,C,.inl e,j,fun I=>absurd e I⟩
 . exact ⟨p,c,B,C,.inr ⟨b,0,cs,e,F,oM,fun i J=>by rw [dW];exact H i J⟩,j,fun _=>⟨b,e,D⟩⟩
theorem AccP.upd {sz:Nat} (h:AccP sz w v A) (B:Upd c w w') (F:Blk w c 37 cs) (j:∀ b k,v = .slice (some ⟨b,0,none⟩) A.length k->b≠c):AccP sz w' v A:=by
 obtain ⟨p,k,C,G,e⟩:=h;refine ⟨p,k,C,G,?_⟩;rcases e with e | ⟨b,cs',D,H,I,J,M⟩
 . exact .inl e
 . refine .inr ⟨b,cs',D,H,I.upd B (j b k (by rw [C,D])),J,fun i O=>(M i O).upd B F dE⟩
theorem AccP.new {sz:Nat} (h:AccP sz w v A) (G:w.heap.size<=c):∀ b k,v = .slice (some ⟨b,0,none⟩) A.length k->b≠c:=fun b k e=>by
 obtain ⟨p,k',j,H,F⟩:=h;rcases F with ⟨B,C,D⟩ | ⟨I,cs',B,C,D,J,M⟩
 . rw [j,C] at e;cases e
 . rw [j,B] at e;cases e;have:=D.lt;omega
theorem zEV {q:Rat} (h:i<A.length):(A++[q]).getD i 0=A.getD i 0:=by
 simp [eS h]
theorem zEW {q:Rat}:(A++[q]).getD A.length 0=q:=sM
def AppX (sz:Nat) (w w':World):Prop:=Ext w w'\/∃ b cs,sz<=b/\Blk w b 37 cs/\Upd b w w'
theorem AppX.ext {sz:Nat} (h:AppX sz w w') (B:w0.heap.size<=sz) (e:Ext w0 w):Ext w0 w':=by
 rcases h with h | ⟨b,cs,C,D,j⟩
 . exact e.trans h
 . exact e.upd j oM
theorem AppX.num {sz:Nat} {q:Rat} (h:AppX sz w w') (C:c<sz) (e:NumAt c q w):NumAt c q w':=by
 rcases h with h | ⟨b,cs,D,j,B⟩
 . exact e.ext h
 . exact e.upd B j oM
theorem zGW {d:Option Tmp} {x y:Operand} {sz:Nat} {q:Rat} {B C:Value}
 (hx:AccP sz w (σ x) A) (Z:σ y = .slice (some ⟨b2,0,none⟩) 1 1) (V:Blk w b2 37 [B,c2,C]) (hq:IsNum w (.agg #[B,c2,C]) q) (hA:A.length<4096) (X:sz<=w.heap.size)
 (hk:∀ v w',AppX sz w w'->AccP sz w' v (A++[q])->K v w') :
 Runs prog r ⟨d,.call { callee := .builtin .append,args := #[x,y],argTypes := #[25,25] },ty,pos,af,g⟩ σ w K:=by
 obtain ⟨p,c,h1,h2,h3⟩:=hx;have hq0:=hq;have hcells:Cells w (some ⟨b2,0,none⟩) 37 [B,c2,C]:=Cells.blk V;have hok:[B,c2,C].all zDT=true:=by
  obtain ⟨n,dd,he,hn,hd⟩:=hq;obtain ⟨p1,ay,k1,rfl,-⟩:=hn;obtain ⟨p2,az,k2,rfl,-⟩:=hd;cases he;rfl
 have H:∀ (w':World) (b h:Nat) (cs':List Value),sz<=b->A.length+1<=h->Blk w' b 37 cs'->cs'.length=3*h->(∀ i,i<A.length->IsNum w' (.agg ((cs'.drop (3*i)).take 3).toArray) (A.getD i 0))->((cs'.drop (3*A.length)).take 3=[B,c2,C])->IsNum w' (.agg #[B,c2,C]) q ->
  AccP sz w' (.slice (some ⟨b,0,none⟩) (A.length+1) h) (A++[q]):=fun w' b h cs' M O g3 g4 g5 g6 g7=>by
  refine ⟨_,h,sM,by simpa using O,.inr ⟨b,cs',rfl,M,g3,g4,fun i e => ?_⟩⟩;by_cases hi':i<A.length
  . rw [zEV hi'];exact g5 i hi'
  . have:i=A.length:=by simp at e;omega
    subst this;rw [g6,zEW];exact g7
 by_cases hc:A.length+1<=c
 . -- within the capacity
   rcases h3 with ⟨D,G,j⟩ | ⟨b,cs,D,G,j,e4,Q⟩
   . omega
   . subst D;refine zAz (n:=3) zAs zAs zFT h1 Z j hcells rfl hc oM hok fun w' U hN=>hk _ w' ?_ ?_
     . exact .inr ⟨b,cs,G,j,U⟩
     . rw [dW,show A.length*3=3*A.length from by omega] at hN;refine H w' b c _ G hc hN (by rw [zAu];exact e4) (fun i e => ?_) ?_ (hq0.upd U j dE)
       . rw [zBb oM,ct oM];exact (Q i e).upd U j dE
       . rw [zBb oM,cD rfl]
 . have al:=zAc (A.length+1) c;have hold:∃ old,Cells w p 37 old/\old.length=A.length*3/\∀ i,i<A.length->IsNum w (.agg ((old.drop (3*i)).take 3).toArray) (A.getD i 0):=by
    rcases h3 with ⟨D,G,j⟩ | ⟨b,cs,D,G,j,e4,Q⟩
    . subst D;exact ⟨[],.inl rfl,rfl,fun i e=>by simp at e⟩
    . refine ⟨cs.take (A.length*3),.inr ⟨b,0,cs,D,j,sM⟩,by simp;omega,fun i e => ?_⟩;have:=Q i e;rwa [show ((cs.take (A.length*3)).drop (3*i)).take 3=(cs.drop (3*i)).take 3 from by
       rw [gy,gM,dT oM]]
   obtain ⟨old,o1,o2,o3⟩:=hold;refine zAW zAs zAs zFT rfl dE h1 Z o1 o2 hcells rfl oM oM fun w' I h M hE hB O _=>hk _ w' ?_ ?_
   . exact .inl hE
   . have Y:I.length=(h-(A.length+1))*3:=by rw [O];simp [Builtin.zeroCells,Value.cells]
     refine H w' _ h _ X M hB (by simp [o2,Y];omega) (fun i e => ?_) ?_ (hq0.ext hE)
     . rw [dU,zDK oM];exact (o3 i e).ext hE
     . rw [dU,fA oM,eJ oM];simp
variable {Φ:Value->World->Prop} {N n:Nat} {P:Program} {T:TypeId} {args:Array Value} {ds:List Nat} {f:FuncId} {fn:Func} {ts:Array TypeId} {δ:List Deferred} {ρ:Env}
structure OthX (l:Nat) (w w':World):Prop where
 os:w'.os=w.os
 tape:w'.tape=w.tape
 output:w'.output=w.output
 size:w'.heap.size=w.heap.size
 block:∀ k,k≠l->w'.heap[k]? = w.heap[k]?
 no:∀ T cs,¬ Blk w l T cs
theorem OthX.upd {l:Nat} (h:OthX l w w'):Upd l w w':=⟨h.os,h.tape,h.output,h.size,h.block,fun T cs e=>absurd e (h.no T cs)⟩
theorem Blk.oth {l:Nat} (h:Blk w b T cs) (j:OthX l w w'):Blk w' b T cs :=
 h.upd j.upd fun e=>j.no T cs (e ▸ h)
theorem Ext.oth {l:Nat} (h:Ext w0 w) (e:OthX l w w') (j:w0.heap.size<=l):Ext w0 w':=h.upd e.upd j
theorem zEX {l:Nat} {o:Obj} (j:Obj) (h:w.heap[l]? = some o) (B:o.isCells=false):OthX l w (w.putObj l j) :=
 ⟨rfl,rfl,rfl,by simp [World.putObj],fun k C=>World.putObj_heap_other C,fun T cs e=>by
  unfold Blk at e;rw [h] at e;cases e;cases B⟩
def BlkLe (w w':World):Prop:=∀ b T cs,Blk w b T cs->Blk w' b T cs
theorem OthX.le {l:Nat} (h:OthX l w w'):BlkLe w w':=fun _ _ _ e=>e.oth h
theorem Rd.le {p:Option Addr} (h:Rd w p ds) (e:BlkLe w w'):Rd w' p ds:=fun i j=>by
 obtain ⟨b,o,cs,B,C,D⟩:=h i j;exact ⟨b,o,cs,B,e _ _ _ C,D⟩
theorem IsW.le (h:IsW w v n) (e:BlkLe w w'):IsW w' v n:=by
 obtain ⟨p,ds,cap,j,B,C,D,F⟩:=h;exact ⟨p,ds,cap,j,B,C.le e,D,F⟩
theorem IsNum.le {q:Rat} (h:IsNum w v q) (e:BlkLe w w'):IsNum w' v q:=by
 obtain ⟨n,d,j,B,C⟩:=h;exact ⟨n,d,j,B.le e,C.le e⟩
theorem PRd.le {p:Option Addr} (h:PRd w p l) (e:BlkLe w w'):PRd w' p l:=by
 rcases h with h | ⟨b,o,cs,j,B,C,D⟩
 . exact .inl h
 . exact .inr ⟨b,o,cs,j,e _ _ _ B,C,fun i F=>(D i F).le e⟩
theorem NumAt.le {q:Rat} (h:NumAt b q w) (e:BlkLe w w'):NumAt b q w':=by
 obtain ⟨cs,j,B,C⟩:=h;exact ⟨cs,e _ _ _ j,B,C.le e⟩
theorem IsPoly.le (h:IsPoly w v l) (e:BlkLe w w'):IsPoly w' v l:=by
 obtain ⟨p,c,j,B,C,D⟩:=h;exact ⟨p,c,j,B,C.le e,D⟩
def NC (w w':World):Prop:=∀ (k:Nat) (o:Obj),w.heap[k]? = some o->o.isCells=false->w'.heap[k]? = some o
theorem NC.refl (w:World):NC w w:=fun _ _ h _=>h
theorem NC.trans {a b c:World} (h:NC a b) (k:NC b c):NC a c:=fun i o j e=>k i o (h i o j e) e
theorem NC.ext (h:Ext w w'):NC w w':=fun _ _ e _=>h.heap e
theorem NC.upd (h:Upd b w w') (B:Blk w b T cs):NC w w':=fun k o j C=>by
 by_cases e:k=b
 . subst e;unfold Blk at B;rw [B] at j;cases j;cases C
 . rw [h.block k e];exact j
theorem NC.extS (h:ExtS [b] w w') (B:Blk w b T cs):NC w w':=fun k o j C=>by
 by_cases e:k=b
 . subst e;unfold Blk at B;rw [B] at j;cases j;cases C
 . rw [h.block k (fj.1 j).1 (by simpa using e)];exact j
def zLY (P:Program) (l:Nat) (args:Array Value) (w:World) (K:Value->World->Prop):Prop :=
 ∃ fn j h B,(Instr.yield l args).run P w = .ok (.round l fn j h B) w/\RoundIn (W none) 0 P l fn j h B w (fun e w'=>∃ v,e = .returned v/\K v w')
theorem zMM {d:Option Tmp} {x:Operand} {l:Nat} {args:Array Operand} 
 (G:σ x = .func (.yield l) #[] #[]) (H:zLY P l (args.toList.map σ).toArray w K) :
 Runs P none ⟨d,.call { callee := .value x,args:=args,argTypes:=ts },ty,pos,af,g⟩ σ w K:=by
 obtain ⟨fn,C,B,D,F,I⟩:=H;have ha:(args.toList.map σ).toArray=args.map σ:=amap _ _;rw [ha] at F;unfold Runs;rw [zDJ (fun _ e=>by cases e)];have:(execOp σ ⟨d,.call { callee := .value x,args:=args,argTypes:=ts },ty,pos,af,g⟩).run P w = .ok (.round l fn C B D) w:=by
  simp only [execOp,resolve,G,Deferred.ofValue];simp [invoke,F]
 rw [this];exact I
def exts (ρ:Env):List (Tmp×Value)->Env
 | []=>ρ
 | (p,v) :: l=>exts ((p,v) :: ρ) l
theorem zSl {N:Nat} {δ:List Deferred}:∀ (l:List (Tmp×Value)) (ρ:Env) (e:Array Value),Fr N { tmps:=e,defers:=δ } ρ->(∀ x∈l,x.1<N) ->
 Fr N { tmps:=l.foldl (fun t (x:Tmp×Value)=>t.setIfInBounds x.1 x.2) e,defers:=δ } (exts ρ l)
 | [],ρ,e,h,_=>h
 | (p,v) :: l,ρ,e,h,j=>by
  have B:Fr N { tmps:=e.setIfInBounds p v,defers:=δ } ((p,v) :: ρ):=h.put (some p) v (fun d hd=>by cases hd;exact j (p,v) sM);exact zSl l _ _ B fun x hx=>j x (by simp [hx])
def mark (D:Nat):Deferred:={ target := .collected D,args := #[] }
theorem zLR {g:Operand} {O:Array Tmp} {assign body:Code} {Q:Post} {cap:Array Value}
 (ao:(match g with | .tmp t=>(dom ρ).contains t | _=>true)=true) (hg:look ρ g = .func (.func f) #[] cap) (hf:zBA P f) (ap:O.toList.all (fun p=>decide (p<N))=true)
 (I:Nat->World->Prop) (Kp:World->World->Prop) (n:Nat) (enc:Nat->Array Value->World->Prop)
 (aq:∀ i args w,enc i args w->args.size=O.size)
 (h0:∀ w1,Ext w w1->I 0 w1)
 (ar:∀ i w1 w2,I i w1->Ext w1 w2->I i w2)
 (au:∀ i l w1 w2,w.heap.size<=l->I i w1->OthX l w1 w2->I i w2)
 (ad:∀ (l:Nat) (J:Nat->World->Prop),(∀ i w1 w2,J i w1->Ext w1 w2->J i w2)->(∀ i w1,J i w1->I i w1) ->
  (∀ i,i<n->∀ args w1,J i w1->enc i args w1->zLY P l args w1 (fun u w2=>u = .bool true/\J (i+1) w2/\Kp w1 w2)) ->
  ∀ w1,Ext w w1->J 0 w1->CallK P f (#[.func (.yield l) #[] #[]]++cap) w1 (fun _ w2=>J n w2))
 (V:∀ (l i:Nat) (args:Array Value) (w1:World),w.heap.size<=l->i<n->I i w1->enc i args w1 ->
  WPE P (some l) N assign (fun e av aw w2=>e = .normal/\aw=[]/\NC w1 w2 /\
   ∀ w3,OthX l w2 w3->WPE P (some l) N body (fun e _ _ w4=>e = .normal/\NC w3 w4/\∀ w5,OthX l w4 w5->I (i+1) w5/\Kp w1 w5) [] av w3) [] (exts ρ (O.toList.zip args.toList)) w1)
 (Z:∀ (D:Nat) (w2:World),w.heap.size<=D->I n w2->w2.heap[D]? = some (.deferred (some []))->Q .normal ρ (mark D :: δ) w2) :
 WPE P none N (.rangeFunc g O assign body) Q δ ρ w:=fun a aj hd=>by
 refine wpIn_rangeFunc (F:=W none) fun fn ax => ?_;obtain ⟨B,j⟩:∃ B:LoopState->Loop,B=fun st=>{ state:=st,pending:=none,fn,tmps:=a.tmps,params:=O,assign,body,defers:=w.heap.size }:=⟨_,rfl⟩;obtain ⟨H,U⟩:∃ H,(w.alloc (.deferred (some []))).alloc (.loop (B .ready))=H:=⟨_,rfl⟩;have ay:H.heap[w.heap.size+1]? = some (.loop (B .ready)):=by
  rw [<- U];have:=World.alloc_heap_new (w.alloc (.deferred (some []))) (.loop (B .ready));rwa [World.size_alloc] at this
 have az:H.heap[w.heap.size]? = some (.deferred (some [])):=by
  rw [<- U];exact (Below.heap_alloc _ _ _ sM).trans (World.alloc_heap_new w _)
 have ab:Ext w H:=by
  rw [<- U];exact (Ext.push (w:=w) (.deferred (some []))).trans (Ext.push (w:=w.alloc (.deferred (some []))) (.loop (B .ready)))
 have aA:a.eval g = .func (.func f) #[] cap:=by
  rw [aj.eval g (fun t e=>by subst e;simpa using ao)];exact hg
 refine ⟨w.heap.size+1,[mark w.heap.size],H,{ target := .fn (.func f) cap,args := #[.func (.yield (w.heap.size+1)) #[] #[]] },H,f,#[.func (.yield (w.heap.size+1)) #[] #[]]++cap,H,?_,?_,?_,?_,?_,?_⟩
 . rw [<- U,j];exact run_enterLoop_outer fn a.tmps O assign body
 . simp only [resolve,aA];simp [go_sem]
 . intro f' _;trivial
 . simp [invoke,go_sem,hf (#[.func (.yield (w.heap.size+1)) #[] #[]]++cap) H]
 . intro h;cases h
 . refine zTd (h:=Calls.mono (ad (w.heap.size+1) (fun i W=>I i W/\W.heap[w.heap.size+1]? = some (.loop (B .ready))/\W.heap[w.heap.size]? = some (.deferred (some [])))
    (fun i w1 w2 h hE=>⟨ar i w1 w2 h.1 hE,hE.heap h.2.1,hE.heap h.2.2⟩) (fun i w1 h=>h.1) ?_ H ab ⟨h0 H ab,ay,az⟩) ?_)
   . rintro i hi args w1 ⟨hI,X,hk⟩ he;have hlt:w.heap.size+1<w1.heap.size:=(fj.1 X).1;have hy:=run_yield (P:=P) (args:=args) X (by rw [j];exact aq i args w1 he);rw [j] at hy;refine ⟨fn,_,assign,body,hy,roundIn_of_wpIn ax ?_⟩;have hfr2:=zSl (N:=N) (δ:=[]) (O.toList.zip args.toList) ρ a.tmps ⟨aj.size,aj.at_⟩ (fun x hx=>by
      have:=(List.of_mem_zip hx).1;simpa using eZ.1 ap _ this)
     have ae:(O.zip args).foldl (fun t (x:Tmp×Value)=>t.setIfInBounds x.1 x.2) a.tmps=(O.toList.zip args.toList).foldl (fun t (x:Tmp×Value)=>t.setIfInBounds x.1 x.2) a.tmps:=by
      rw [<- Array.foldl_toList];simp
     rw [<- ae] at hfr2;refine wpIn_mono (V (w.heap.size+1) i args w1 oM hi hI he _ hfr2 rfl) ?_;rintro e a2 w2 ⟨aN,aB,rfl,aC,M,aa⟩;have Y:=M _ _ X rfl;have hk2:=M _ _ hk rfl;refine ⟨_,run_beginRound Y (by rw [j]),?_⟩;have hlt2:=(fj.1 Y).1;have ho2:=zEX (.loop { B .ready with state := .busy }) Y rfl;have hl3:(w2.putObj (w.heap.size+1) (.loop { B .ready with state := .busy })).heap[w.heap.size+1]? = some (.loop { B .ready with state := .busy }):=World.putObj_heap_same hlt2;have hk3:(w2.putObj (w.heap.size+1) (.loop { B .ready with state := .busy })).heap[w.heap.size]? = some (.deferred (some [])):=(World.putObj_heap_other oM).trans hk2;refine wpIn_mono (aa _ ho2 a2 aB aC) ?_;rintro e a4 w4 ⟨aO,aP,rfl,G,ah⟩;have hl4:=G _ _ hl3 rfl;have hk4:=G _ _ hk3 rfl;have hlt4:=(fj.1 hl4).1;have hr4:=run_endRound (P:=P) none hl4;have ho4:=zEX (.loop (B .ready)) hl4 rfl;obtain ⟨g1,g2⟩:=ah _ ho4;refine ⟨_,_,hr4,_,rfl,rfl,⟨?_,?_,?_⟩,?_⟩
     . rw [j] at g1 ⊢;exact g1
     . rw [j];exact World.putObj_heap_same hlt4
     . exact (World.putObj_heap_other oM).trans hk4
     . rw [j] at g2 ⊢;exact g2
   . rintro e w2 ⟨v,rfl,hI,X,hk⟩;have hlt:w.heap.size+1<w2.heap.size:=(fj.1 X).1;refine ⟨none,_,by have:=run_endLoop (P:=P) X (by rw [j];simp);rw [j] at this;exact this,?_⟩;refine ⟨ρ,⟨aj.size,aj.at_⟩,?_⟩;show Q .normal ρ ([mark w.heap.size]++a.defers) _;rw [hd];refine Z w.heap.size _ (cX _) ?_ ((World.putObj_heap_other oM).trans hk);exact au n (w.heap.size+1) _ _ oM hI (zEX _ X rfl)
theorem zLD {c:Code} (N:Nat)
 (J:P.funcs[f]? = some fn) (M:fn.body=some c) (O:fn.ntmps=N) (B:args.size<=N)
 (h:WPE P none N c (funQ fun ρ δ w'=>∃ D v,δ=[mark D]/\w'.heap[D]? = some (.deferred (some []))/\∀ w2,OthX D w' w2->Gives P fn N ρ w2 v/\Ext w w2/\Φ v w2) [] (args0 0 args.toList) w):Ret P f args w Φ:=by
 subst O;refine callsW' (r:=none) (n:=0) (callsIn_of_wp_marks J M trivial ?_);refine wpIn_mono (h _ (zJj fn args B) rfl) ?_
 have C:∀ (a:Act) (w':World) (ρ:Env),Fr fn.ntmps a ρ->(∃ D v,a.defers=[mark D]/\w'.heap[D]? = some (.deferred (some []))/\∀ w2,OthX D w' w2->Gives P fn fn.ntmps ρ w2 v/\Ext w w2/\Φ v w2) ->
  LeavesInM (W none) 0 P fn a.tmps (fun e w'=>∃ v,e = .returned v/\Ext w w'/\Φ v w') a.defers .returning w':=by
  rintro a w' ρ j ⟨D,v,Q,I,F⟩;rw [Q];refine ⟨sM,.inl ⟨D,_,rfl,run_takeDeferred I,?_⟩⟩;obtain ⟨U,V,X⟩:=F _ (zEX (.deferred none) I rfl);exact ⟨v,U a j,v,rfl,V,X⟩
 rintro e a w' ⟨ρ,j,H⟩;cases e with
 | normal=>exact C a w' ρ j H
 | ret=>exact C a w' ρ j H
 | _=>exact H.elim
theorem ret_of_wpeM2 {c:Code} (N:Nat)
 (U:P.funcs[f]? = some fn) (V:fn.body=some c) (X:fn.ntmps=N) (B:args.size<=N)
 (h:WPE P none N c (funQ fun ρ δ w'=>(δ=[]/\∃ v,Gives P fn N ρ w' v/\Ext w w'/\Φ v w')\/∃ D v,δ=[mark D]/\w'.heap[D]? = some (.deferred (some []))/\∀ w2,OthX D w' w2->Gives P fn N ρ w2 v/\Ext w w2/\Φ v w2) [] (args0 0 args.toList) w):Ret P f args w Φ:=by
 subst X;refine callsW' (r:=none) (n:=0) (callsIn_of_wp_marks U V trivial ?_);refine wpIn_mono (h _ (zJj fn args B) rfl) ?_
 have C:∀ (a:Act) (w':World) (ρ:Env),Fr fn.ntmps a ρ->((a.defers=[]/\∃ v,Gives P fn fn.ntmps ρ w' v/\Ext w w'/\Φ v w')\/∃ D v,a.defers=[mark D]/\w'.heap[D]? = some (.deferred (some []))/\∀ w2,OthX D w' w2->Gives P fn fn.ntmps ρ w2 v/\Ext w w2/\Φ v w2) ->
  LeavesInM (W none) 0 P fn a.tmps (fun e w'=>∃ v,e = .returned v/\Ext w w'/\Φ v w') a.defers .returning w':=by
  rintro a w' ρ j (⟨H,v,I,J,M⟩ | ⟨D,v,H,Q,F⟩)
  . rw [H];exact ⟨v,I a j,v,rfl,J,M⟩
  . rw [H];refine ⟨sM,.inl ⟨D,_,rfl,run_takeDeferred Q,?_⟩⟩;obtain ⟨I,J,M⟩:=F _ (zEX (.deferred none) Q rfl);exact ⟨v,I a j,v,rfl,J,M⟩
 rintro e a w' ⟨ρ,j,O⟩;cases e with
 | normal=>exact C a w' ρ j O
 | ret=>exact C a w' ρ j O
 | _=>exact O.elim
def NCx (a b:World):Prop:=NC a b
theorem NCx.ext {a b c:World} (h:NCx a b) (e:Ext b c):NCx a c:=NC.trans h (NC.ext e)
theorem NCx.tr {a b c:World} (h:NCx a b) (k:NC b c):NCx a c:=NC.trans h k
def DefAt (D:Nat) (w:World):Prop:=w.heap[D]? = some (.deferred (some []))
theorem DefAt.nc {D:Nat} (h:DefAt D w) (k:NC w w'):DefAt D w':=k _ _ h rfl
theorem DefAt.ext {D:Nat} (h:DefAt D w) (k:Ext w w'):DefAt D w':=h.nc (NC.ext k)
end Go.Proofs.YtjiendlfobjanaaGreatDoor
namespace Go.Proofs.YtjiendlfobjanaaGreatDoor
open Go Go.RowKit Go.Proofs Tryz
set_option maxRecDepth 10000
set_option maxHeartbeats 2000000
attribute [local irreducible] Runs WPE CallK Ret
variable {u v:Value} {w:World} {x:Rat}
theorem zHO {p q s:List Rat} (C:IsPoly w u p) (hq:IsPoly w v q) (h:padd p q=some s):Ret prog 149 #[u,v] w (fun r w'=>IsOwn w.heap.size w' r s):=by
 obtain ⟨pp,pc,rfl,aj,Y,aq⟩:=C;obtain ⟨qp,qc,rfl,ar,Z,au⟩:=hq;have E0:Ext w w:=Ext.refl w;refine J0 36 func149 rfl (rj (ag (rM 3 ?_)));refine zBZ (fun ρ w'=>∃ (ap bp:Option Addr) (P Q:List Rat) (ac bc:Nat) (R:List Rat),Keep ρ [(0,.slice ap P.length ac),(1,.slice bp Q.length bc)]/\Ext w w'/\PRd w' ap P/\PRd w' bp Q/\P.length<=ac/\P.length<=4096/\Q.length<=P.length/\addAt Q 0 P=some R/\trim R=s) ?_ ?_
 . refine rJ (K1 (zG zAC rfl (mv (K1 (zG zAC rfl (K8 rfl (rM 4099 ?_)))))));refine K0 rfl ?_ ?_<;>intro M
   . have hl:p.length<q.length:=t_lt M;rw [padd,cD hl] at h;obtain ⟨R,U,D⟩:=map_some h;exact rI (mv (ag (ag (rl (zL ⟨rfl,qp,pp,q,p,qc,pc,R,(kp rfl),E0,Z.ext E0,Y.ext E0,ar,au,oM,U,D⟩)))))
   . have hl:¬ p.length<q.length:=by have:=f_lt M;omega
     rw [padd,ct hl] at h;obtain ⟨R,U,D⟩:=map_some h;exact zw (zL ⟨rfl,pp,qp,p,q,pc,qc,R,(kp rfl),E0,Y.ext E0,Z.ext E0,aj,aq,oM,U,D⟩)
 . clear E0;rintro aM w ⟨ap,bp,P,Q,ac,bc,R,j,aa,av,aw,ax,ay,ab,U,D⟩;have E0:Ext w w:=Ext.refl w;refine wpe_k _ j ?_;refine rJ (K1 (j0 E0 yB (zHi (l:=P) ⟨ap,ac,rfl,ax,av,ay⟩) fun v3_1 w1 E0 I => ?_));obtain ⟨op,oc,rfl,aN,az,_,ai⟩:=I;refine ag (rM 35 ?_);refine zA (rJ (K1 (zG zAC rfl (mv (rM 917539 ?_)))));refine zF (zX (X:=Nat) (fun i ρ w'=>Keep ρ [(5,.slice op P.length oc),(17,.slice bp Q.length bc),(18,.int .i64 (Q.length:Nat)),(19,.int .i64 (i:Nat))]/\i<=Q.length/\Ext w w'/\∃ O,O.length=P.length/\PRd w' op O/\addAt (Q.drop i) i O=some R) (fun i=>Q.length-i) 0 ⟨(kp rfl),di _,E0,P,rfl,az,U⟩ ?_);rintro i ρ1 w1 ⟨j,aO,E0,O,F,ad,J⟩;refine wpe_k _ j ?_;refine rj (K8 rfl (rM 1966112 ?_));refine zA ?_;refine K0 rfl ?_ ?_<;>intro M
   . have G:i<Q.length:=t_lt M;have hq1:=aw.ext E0;rw [zFP G] at J;obtain ⟨s1,aA,J⟩:=bind_some J;obtain ⟨aB,rfl⟩:=zGV aA;obtain ⟨V,rfl,aC⟩:=ai (fun e=>by rw [e] at ab;simp only [List.length_nil] at ab;omega);have B:=ad.blk (fun e=>by rw [e] at F;simp only [List.length_nil] at F;omega);refine sk (zA (zF (rJ (K1 (runs_pindex (l:=Q) hq1 rfl rfl G (K1 (runs_pload hq1 G rfl fun v23 H => ?_)))))));refine K1 (zR zAt fun ae w7 hb hE hBc hs => ?_);have hgc:w.heap.size<=ae:=by rw [hb];exact E0.size
     have ah:ae≠V:=by have:=B.lt;omega
     obtain ⟨E0,H,B⟩:=V2 hE E0 H.ext B.ext;refine ag (K1 (zO rfl H (Cell3.of hBc rfl) fun _ w9 hU hNA => ?_));replace E0:=E0.upd hU hgc;replace B:=B.upd hU hBc (eH ah);refine rM 917728 ?_;have hnw:NoW [V] _:=noWP B;refine zAy true [⟨9,V,fun w=>PBlk w V (O),fun w=>PBlk w V (O.set i (O.getD i 0+Q.getD i 0))⟩] [[10],[12],[10],[12],[3,1],[1],[14],[3,1],[15,13],[1,3]] mixed kR sM (all1 (zJr B)) fun K hK=>dbv rfl (fun σ wx hE C j=>zAH ⟨Ext.refl _,j.1⟩) (dbv rfl (fun σ wx hE C j=>zAH ⟨Ext.refl _,j.1⟩) (dbv rfl (fun σ wx hE C j=>zAH ⟨Ext.refl _,j.1⟩) (dbv rfl (fun σ wx hE C j=>zAH ⟨Ext.refl _,j.1⟩) (dbv rfl (fun σ wx hE C j=>zCV j.1 j.2.1 oM ⟨Ext.refl _,rfl⟩) ?_))));refine dbn (fun v w'=>IsNum w' v (O.getD i 0)) rfl (fun _ _ _ h1 hx h=>h.extS hx (hnw.ext h1)) (fun σ wx hE C j=>zCH j.1 rfl (C _ (dI.2 rfl) (.inl ⟨rfl,by show _<(9:Nat);decide⟩)) oM fun v h=>⟨Ext.refl _,h⟩) ?_
     refine dbn (fun v w'=>IsNum w' v (Q.getD i 0)) rfl (fun _ _ _ h1 hx h=>h.extS hx (hnw.ext h1)) (fun σ wx hE C j=>zW j.1 (hNA.extS hE (nin1 ah) hnw) fun v h=>⟨Ext.refl _,h⟩) (dbn (fun v w'=>IsNum w' v (O.getD i 0+Q.getD i 0)) rfl (fun _ _ _ h1 hx h=>h.extS hx (hnw.ext h1)) (fun σ wx hE C j=>zJ yB (CallK.of_ret (zFH j.1 j.2.1 aB) fun v w2 hX I=>⟨hX,I⟩) rfl) (dbv rfl (fun σ wx hE C j=>zCV j.1 j.2.1 oM ⟨Ext.refl _,rfl⟩) (dss _ rfl (fun σ wx hE hpre j=>zBE j.1 rfl j.2.1 hpre oM fun v w2 hU hN=>⟨hU,hN⟩) (zAJ (hK _ fun wq hS hP => ?_)))));rintro _ rfl _ rfl _ rfl _ rfl _ rfl v29 N29 v30 N30 v31 N31 _ rfl _ _;refine zY ?_;obtain ⟨aD,-⟩:=hP;replace E0:=E0.updS hS aC;clear B;have B:=aD;refine zN (zK (K5 [5,17,18,19] ?_));exact K6 (K8 rfl (mv (rl (zL (⟨rfl,i+1,⟨kw,oM,E0,_,by simp [F],B.rd,J⟩,oM⟩)))))
   . have aP:=f_lt M;obtain rfl:i=Q.length:=by omega
     rw [eO] at J;obtain rfl:O=R:=dj J;refine zT (zt (zf (zI (zK (rj (mv ?_))))));have hsz:=E0.size;refine K1 (j0 E0 yB (zBS (l:=O) ⟨op,oc,by rw [F];rfl,oM,ad,oM⟩) fun v9 w9 E0 I => ?_);rw [D] at I;refine ag (rM 917552 ?_);refine zE (zM ?_);exact ⟨rfl,_,zZ rfl rfl,aa.trans E0,I.sz (by have:=aa.size;omega)⟩
theorem info37':(prog.info? 37).map (fun i=>(i.zero,i.size))=some (some (.agg #[.bool false,.slice none 0 0,.slice none 0 0]),3):=kR
theorem zDL {p s:List Rat} (hp:IsPoly w u p) (Q:IsNum w v x) (h:zDg p x=some s):Ret prog 56 #[u,v] w (fun r w'=>IsOwn w.heap.size w' r s):=by
 obtain ⟨pp,pc,rfl,al,U,am⟩:=hp;obtain ⟨L,hL,V⟩:=map_some h;have hx0:=Q;obtain ⟨xn,xd,rfl,an,ao⟩:=hx0;have E0:Ext w w:=Ext.refl w;refine J0 23 func56 rfl (rj ?_);refine K1 (zn (Z1 E0 Q.ext fun b1 w1 E0 Q hgb1 Y=>ag (rM 9 ?_)));refine rj (ag (rM 41 ?_));refine zA (rJ (K1 (zG zAC rfl (mv (rM 1832 ?_)))));refine zF ?_;have e:NumAt b1 x _:=⟨_,Y,rfl,Q⟩;refine zX (X:=Nat) (fun i ρ w'=>∃ v5 A,Keep ρ [(3,.pointer (some ⟨b1,0,none⟩)),(5,v5),(8,.slice pp p.length pc),(9,.int .i64 (p.length:Nat)),(10,.int .i64 (i:Nat))]/\i<=p.length/\Ext w w'/\AccP (b1+1) w' v5 A/\A.length=i/\(∃ B,mapO (fun c=>rmul c x) (p.drop i)=some B/\A++B=L)/\NumAt b1 x w') (fun i=>p.length-i) 0 ⟨_,[],(kp rfl),di _,E0,AccP.nil,rfl,⟨L,hL,rfl⟩,e⟩ ?_;rintro i ρ1 w1 ⟨v5,A,hk,hil,E0,j,hAl,⟨B,D,F⟩,e⟩;refine wpe_k _ hk ?_;refine rj (K8 rfl (rM 3880 ?_));refine zA ?_;refine K0 rfl ?_ ?_<;>intro hc
 . have G:i<p.length:=t_lt hc;have hq1:=U.ext E0;rw [zFP G] at D;obtain ⟨m,hm,D⟩:=bind_some D;obtain ⟨Z,rfl⟩:=zEB hm;obtain ⟨B2,aa,D⟩:=bind_some D;cases D;refine sk (zA (zF (rj (K1 (runs_pindex (l:=p) hq1 rfl rfl G (K1 (runs_pload hq1 G rfl fun v23 H => ?_)))))));refine K1 (zR zAt fun I w7 hb hE hBc hs => ?_);have hgc:w.heap.size<=I:=by rw [hb];exact E0.size
   have ab:b1≠I:=by have:=e.lt;omega
   have ad:=j.new (c:=I) oM;obtain ⟨E0,H,e,j⟩:=V3 hE E0 H.ext e.ext j.ext;refine K1 (zO rfl H (Cell3.of hBc rfl) fun _ w9 hU hNA => ?_);replace E0:=E0.upd hU hgc;replace e:=e.upd hU hBc ab;replace j:=j.upd hU hBc ad;refine rM 1960 ?_;refine rI (K1 (zW rfl hNA fun v15 N15=>K1 (zW rfl e fun v16 N16=>K1 (zJ yB (CallK.of_ret (Mul_ok N15 N16 Z) fun v17 w8 hE C => ?_) rfl))));obtain ⟨E0,e,j⟩:=V2 hE E0 e.ext j.ext;obtain ⟨J,d17,rfl,M,O⟩:=C;have C:IsNum _ (.agg #[.bool (decide (p.getD i 0*x<0)),J,d17]) (p.getD i 0*x):=⟨_,_,rfl,M,O⟩;refine K1 (zi (cs:=[.bool (decide (p.getD i 0*x<0)),J,d17]) zAs info37' dE dE kR fun bb w10 hb hE hBb hs => ?_);obtain ⟨E0,e,j,C⟩:=V3 hE E0 e.ext j.ext C.ext;refine K1 (zGW j rfl hBb C oM (by have:=e.lt;omega) fun v19 w11 hX hA2 => ?_);replace E0:=hX.ext oM E0;replace e:=hX.num oM e;clear j;have j:=hA2;refine ag (rl (zN (zK (K5 [3,5,8,9,10] ?_))));refine K6 (K8 rfl (mv (rl (zL ?_))));exact ⟨rfl,i+1,⟨v19,A++[p.getD i 0*x],kw,oM,E0,j,by simp [hAl],⟨B2,aa,by rw [dU];exact F⟩,e⟩,oM⟩
 . have ap:=f_lt hc;obtain rfl:i=p.length:=by omega
   rw [eO] at D;cases D;rw [fu] at F;subst F;refine zT (zt (zf (zI (zK (rj (mv ?_))))));have hsz:=E0.size;refine K1 (j0 E0 yB (zBS (j.own oM).poly) fun v9 w9 E0 hr => ?_);rw [V] at hr;refine ag (rM 1816 ?_);exact zE (en rfl E0 (hr.sz hsz))
variable {b n:Nat} {l:List Rat} {y:Rat}
theorem zIZ (v:Value) (n:Nat) (h:v.cells.toList.length=3):((List.replicate n v.cells.toList).flatten).length=3*n:=by
 simp [List.length_flatten,h];omega
theorem flat3 (a b c:Value):∀ (n i:Nat),i<n->(((List.replicate n [a,b,c]).flatten).drop (3*i)).take 3=[a,b,c]
 | 0,i,h=> oM
 | n+1,0,_=>by simp [gz]
 | n+1,i+1,h=>by
  rw [gz,gn,show 3*(i+1)=3*i+1+1+1 from by omega];simp only [List.cons_append,gu,List.drop_succ_cons];exact flat3 a b c n i oM
theorem PBlk.zeros (h:Blk w b 37 ((List.replicate n (Value.agg #[.bool false,.slice none 0 0,.slice none 0 0]).cells.toList).flatten)):PBlk w b (List.replicate n 0):=by
 refine ⟨_,h,?_,fun i e => ?_⟩
 . rw [zIZ _ _ rfl,fF];exact cX _
 . rw [fF] at e;rw [show (Value.agg #[.bool false,.slice none 0 0,.slice none 0 0]).cells.toList=[Value.bool false,.slice none 0 0,.slice none 0 0] from rfl,flat3 _ _ _ n i e,show (List.replicate n (0:Rat)).getD i 0=0 from by simp [gN,e]];exact IsNum.zero
theorem zAV (l:List Rat):(trim l).length<=l.length:=by
 unfold trim;rw [List.length_reverse];have:=(List.dropWhile_suffix (fun x:Rat=>decide (x=0)) (l:=l.reverse)).length_le;simpa using this
theorem zHP {p q s:List Rat} (e:IsPoly w u p) (j:IsPoly w v q) (h:psub p q=some s):Ret prog 70 #[u,v] w (fun r w'=>IsOwn w.heap.size w' r s):=by
 obtain ⟨m,B,C⟩:=bind_some h;have E0:Ext w w:=Ext.refl w;refine J0 10 func70 rfl (rj (ag (rM 3 ?_)));refine rJ (mv (K1 (j2 E0 e.ext j.ext yB (zDC dE dE) fun v1_2 w1 E0 e j N7=>K1 (j1 E0 e.ext yB (zDL j N7 B) fun v8 w8 E0 e hS=>K1 (zJ yB (CallK.of_ret (zHO e hS.poly C) fun v9 w9 hE hr => ?_) rfl)))));have hsz:=E0.size;replace E0:=E0.trans hE;refine ag (rm [4] ?_);exact zE (en rfl E0 (hr.sz hsz))
theorem zPN (C:IsPoly w v l) (D:l≠[]):Ret prog 259 #[v] w (fun r w'=>IsNum w' r (top l)):=by
 obtain ⟨p,c,rfl,F,e,G⟩:=C;have hl0:0<l.length:=eC.2 D;refine J0 9 func259 rfl (rj ?_);refine K1 (zR zAt (Z1 E0 e.ext fun b1 w1 E0 e hgb1 hB1=>rM 5 ?_));refine rJ (mv (K1 (zG zAC rfl (K1 (zAL (b:=1) (l.length-1) rfl rfl oM oM (K1 (runs_pindex (l:=l) (ix:=l.length-1) e rfl rfl oM (K1 (runs_pload e (i:=l.length-1) oM rfl fun v8 N8=>K1 (zO rfl N8 (Cell3.of hB1 rfl) fun _ w9 hU hN => ?_))))))))));replace E0:=E0.upd hU hgb1;obtain ⟨cs,h,j,B⟩:=hN;refine rM 4 ?_;exact zE (zM ⟨rfl,_,zq rfl rfl rfl zAI h j,E0,B⟩)
theorem zNN (e:IsNum w u x) (h:IsNum w v y) (j:rroom x y=true):Ret prog 311 #[u,v] w (fun r w'=>IsNum w' r (x/y)):=by
 have C:=e;have hy0:=h;obtain ⟨O,Q,rfl,H,I⟩:=C;obtain ⟨U,V,rfl,J,M⟩:=hy0;refine J0 14 func311 rfl (rj ?_);refine K1 (zn (Z2 E0 e.ext h.ext fun b1 w1 E0 e h hgb1 hB1 => ?_));refine K1 (zn (Z3a E0 e.ext h.ext hB1.ext hB1.lt fun b2 w2 E0 e h hB1 hgb2 ne_b1_b2 hB2 => ?_));refine K1 (zR zAt (Z4b E0 e.ext h.ext hB1.ext hB2.ext hB1.lt hB2.lt fun b3 w3 E0 e h hB1 hB2 hgb3 ne_b1_b3 ne_b2_b3 hB3=>rM 28 ?_));refine rj (K1 (zh zAI rfl hB1 (cw rfl) (K1 (zh zAI rfl hB2 (cw rfl) (K1 (j5 E0 e.ext h.ext hB1.ext hB2.ext hB3.ext yB (zNm e h j) fun v1_2 w4 E0 e h hB1 hB2 hB3 j => ?_))))));obtain ⟨q,rfl,B⟩:=j;refine mv (xt rfl (xt rfl ?_));refine K1 (zR zAt (Z6d E0 e.ext h.ext hB1.ext hB2.ext hB3.ext B.ext hB1.lt hB2.lt hB3.lt fun b5 w5 E0 e h hB1 hB2 hB3 B hgb5 ne_b1_b5 ne_b2_b5 ne_b3_b5 hB5=>K1 (zO rfl B (Cell3.of hB5 rfl) fun _ w9 hU hN5 => ?_)));replace E0:=E0.upd hU hgb5;replace hB3:=hB3.upd hU ne_b3_b5;refine ag (rM 48 ?_);refine rj (K1 (zW rfl hN5 fun v13 hq2=>K1 (zO rfl hq2 (Cell3.of hB3 rfl) fun _ w9 hU hN => ?_)));replace E0:=E0.upd hU hgb3;obtain ⟨cs,D,F,G⟩:=hN;refine rm [4] ?_;exact zE (zM ⟨rfl,_,zq rfl rfl rfl zAI D F,E0,G⟩)
theorem zDQ {p m:List Rat} (I:IsPoly w v p) (h:monic p=some m):Ret prog 253 #[v] w (fun r w'=>IsOwn w.heap.size w' r m):=by
 have E0:Ext w w:=Ext.refl w;refine J0 14 func253 rfl (rj (ag (rM 1 ?_)));refine rJ (K1 (zJ yB (CallK.of_ret (zBS I) fun v4 w4 hE hT => ?_) rfl));have hsz:=E0.size;replace E0:=E0.trans hE;obtain ⟨G,H,rfl,B,C,D,_⟩:=hT;refine ag (rM 1 ?_);refine zA (rJ (K1 (zG zAC rfl (K8 rfl (rM 129 ?_)))));refine K0 rfl ?_ ?_<;>intro hc
 . have j:trim p=[]:=ef (by have:=gC hc;omega);rw [monic,cD j] at h;cases h;refine rj (ag (rM 4 ?_));exact zE (zU (en rfl E0 IsOwn.nil))
 . have j:trim p≠[]:=fun e=>by rw [e] at hc;cases hc
   rw [monic,ct j] at h;obtain ⟨c,J,M⟩:=bind_some h;obtain ⟨F,rfl⟩:=zFb J;have hT:IsPoly _ (.slice G (trim p).length H) (trim p):=⟨G,H,rfl,B,C,D⟩;refine sk (rJ (K1 (j1 E0 hT.ext yB (zDC (n:=1) dE dE) fun v9 w9 E0 hT N9=>mv (K1 (j2 E0 hT.ext N9.ext yB (zPN hT j) fun v11 w11 E0 hT N9 N11=>K1 (j1 E0 hT.ext yB (zNN N9 N11 F) fun v12 w12 E0 hT N12=>K1 (zJ yB (CallK.of_ret (zDL hT N12 M) fun v13 w13 hE hr => ?_) rfl)))))));have hsz2:=E0.size;replace E0:=E0.trans hE;refine ag (rM 4 ?_);exact zE (en rfl E0 (hr.sz hsz2))
theorem zDi {p q s:List Rat} (G:IsPoly w u p) (hq:IsPoly w v q) (h:pmul p q=some s):Ret prog 71 #[u,v] w (fun r w'=>IsOwn w.heap.size w' r s):=by
 obtain ⟨pp,pc,rfl,aJ,ar,aK⟩:=G;obtain ⟨qp,qc,rfl,aM,au,aN⟩:=hq;have hbig:p.length+q.length<=4096:=by
  rcases dR 4096 (p.length+q.length) with Z | Z
  . rw [pmul,cD Z] at h;cases h
  . exact Z
 rw [pmul,ct oM] at h;obtain ⟨R,hR,av⟩:=map_some h;have E0:Ext w w:=Ext.refl w;refine J0 52 func71 rfl (rj (ag (rM 3 ?_)));refine rJ (K1 (zG zAC rfl (mv (K1 (zG zAC rfl (K1 (zg (p.length+q.length) rfl rfl rfl oM ?_)))))));refine K1 (zAK zAs zFT rfl rfl rfl oM oM oM fun M w1 hb1 hE hB hs => ?_);have hob:w.heap.size<=M:=dS hb1.symm;replace E0:=E0.trans hE;rw [show ((p.length+q.length:Nat):Int).toNat=p.length+q.length from by omega] at hB ⊢;have B:=PBlk.zeros hB;refine ag (rM 35 ?_);refine zA (rJ (K1 (zG zAC rfl (mv (rM 458786 ?_)))));refine zF (zX (X:=Nat) (fun i ρ w'=>Keep ρ [(1,.slice qp q.length qc),(5,.slice (some ⟨M,0,none⟩) (p.length+q.length) (p.length+q.length)),(16,.slice pp p.length pc),(17,.int .i64 (p.length:Nat)),(18,.int .i64 (i:Nat))]/\i<=p.length/\Ext w w'/\∃ O,O.length=(p.length+q.length)/\PBlk w' M O/\mulL q (p.drop i) i O=some R) (fun i=>p.length-i) 0 ⟨(kp rfl),di _,E0,_,sM,B,hR⟩ ?_);rintro i ρ1 w1 ⟨C,aO,E0,O,ab,B,hA⟩;refine wpe_k _ C ?_;refine rj (K8 rfl (rM 983074 ?_));refine zA ?_;refine K0 rfl ?_ ?_<;>intro hc
 . have ad:i<p.length:=t_lt hc;have hp1:=ar.ext E0;rw [zFP ad] at hA;refine sk (zA (zF (rJ (K1 (runs_pindex (l:=p) hp1 rfl rfl ad (K1 (runs_pload hp1 ad rfl fun v23 ae => ?_)))))));refine K1 (zR zAt fun Q w7 Z hE hBc hs => ?_);have hgc:w.heap.size<=Q:=by rw [Z];exact E0.size
   have ah:Q≠M:=by have:=B.lt;omega
   obtain ⟨E0,ae,B⟩:=V2 hE E0 ae.ext B.ext;refine ag (K1 (zO rfl ae (Cell3.of hBc rfl) fun _ w9 U D => ?_));replace E0:=E0.upd U hgc;replace B:=B.upd U hBc (eH ah);refine rM 458978 ?_;refine zA (rj (K1 (zW rfl D fun v15 N15=>K1 (zJ yB (CallK.of_ret (Sign_ok N15) fun v24 w8 hE V => ?_) rfl))));subst V;obtain ⟨E0,D,B⟩:=V2 hE E0 D.ext B.ext;refine K8 rfl (rM 34013410 ?_);refine K0 rfl ?_ ?_<;>intro hc
   . have hz:p.getD i 0=0:=zGt.1 (gC hc);rw [mulL,cD hz] at hA;obtain ⟨H,aw⟩:∃ H,H=O:=⟨O,rfl⟩;subst aw;have I:=ab;have J:=B;have ai:=hA;exact zT (zt (zI (zK (K6 (K8 rfl (mv (rl (zL (⟨rfl,i+1,⟨kw,oM,E0,H,I,J,ai⟩,oM⟩)))))))))
   . have hz:p.getD i 0≠0:=fun e=>dk.1 hc (zGt.2 e);rw [mulL,ct hz] at hA;obtain ⟨O2,ax,ai⟩:=bind_some hA;refine sk (rJ (K1 (zG zAC rfl (mv (rM 470221026 ?_)))));refine zF (zX (X:=Nat) (fun j ρ w'=>Keep ρ [(1,.slice qp q.length qc),(5,.slice (some ⟨M,0,none⟩) (p.length+q.length) (p.length+q.length)),(16,.slice pp p.length pc),(17,.int .i64 (p.length:Nat)),(18,.int .i64 (i:Nat)),(6,.int .i64 (i:Nat)),(7,.pointer (some ⟨Q,0,none⟩)),(26,.slice qp q.length qc),(27,.int .i64 (q.length:Nat)),(28,.int .i64 (j:Nat))]/\j<=q.length/\Ext w w'/\NumAt Q (p.getD i 0) w'/\∃ H,H.length=(p.length+q.length)/\PBlk w' M H/\zIB (p.getD i 0) (q.drop j) (i+j) H=some O2) (fun j=>q.length-j) 0 ⟨(kp rfl),di _,E0,D,O,ab,B,ax⟩ ?_);clear B;rintro j ρ3 w3 ⟨C,aP,E0,D,H,I,J,F⟩;refine wpe_k _ C ?_;refine rj (K8 rfl (rM 1007091938 ?_));refine zA ?_;refine K0 rfl ?_ ?_<;>intro hc
     . have aj:j<q.length:=t_lt hc;have hq1:=au.ext E0;rw [zFP aj] at F;unfold zIB at F;obtain ⟨m,hm,F⟩:=bind_some F;obtain ⟨s1,ay,F⟩:=bind_some F;obtain ⟨az,rfl⟩:=zEB hm;obtain ⟨aA,rfl⟩:=zGV ay;have B:=J;refine sk (zA (zF (rJ (K1 (runs_pindex (l:=q) hq1 rfl rfl aj (K1 (runs_pload hq1 aj rfl fun v33 ak => ?_)))))));refine K1 (zR zAt fun al w7 Z hE hBc hs => ?_);have hgc3:w.heap.size<=al:=by rw [Z];exact E0.size
       have Y:al≠M:=by have:=B.lt;omega
       have am:Q≠al:=by have:=D.lt;omega
       obtain ⟨E0,ak,B,D⟩:=V3 hE E0 ak.ext B.ext D.ext;refine ag (K1 (zO rfl ak (Cell3.of hBc rfl) fun _ w9 U hNB => ?_));replace E0:=E0.upd U hgc3;replace B:=B.upd U hBc (eH Y);replace D:=D.upd U hBc am;refine rM 470221794 ?_;have hnw:NoW [M] _:=noWP B;refine zAy true [⟨15,M,fun w=>PBlk w M (H),fun w=>PBlk w M (H.set (i+j) (H.getD (i+j) 0+p.getD i 0*q.getD j 0))⟩] [[10],[12],[16],[3,1],[10],[12],[16],[3,1],[7,1],[1],[14],[18],[3,1],[7,1],[27,21],[1,3]] mixed kR sM (all1 (zJr B)) fun K hK=>dbv rfl (fun σ wx hE G C=>zAH ⟨Ext.refl _,C.1⟩) (dbv rfl (fun σ wx hE G C=>zAH ⟨Ext.refl _,C.1⟩) (dbv rfl (fun σ wx hE G C=>zAH ⟨Ext.refl _,C.1⟩) (dbv rfl (fun σ wx hE G C=>zg (i+j) C.1 C.2.1 rfl oM ⟨Ext.refl _,rfl⟩) (dbv rfl (fun σ wx hE G C=>zAH ⟨Ext.refl _,C.1⟩) (dbv rfl (fun σ wx hE G C=>zAH ⟨Ext.refl _,C.1⟩) (dbv rfl (fun σ wx hE G C=>zAH ⟨Ext.refl _,C.1⟩) (dbv rfl (fun σ wx hE G C=>zg (i+j) C.1 C.2.1 rfl oM ⟨Ext.refl _,rfl⟩) (dbv rfl (fun σ wx hE G C=>zCV C.1 C.2.1 oM ⟨Ext.refl _,rfl⟩) ?_))))))))
       refine dbn (fun v w'=>IsNum w' v (H.getD (i+j) 0)) rfl (fun _ _ _ h1 hx h=>h.extS hx (hnw.ext h1)) (fun σ wx hE G C=>zCH C.1 rfl (G _ (dI.2 rfl) (.inl ⟨rfl,by show _<(15:Nat);decide⟩)) oM fun v h=>⟨Ext.refl _,h⟩) ?_;refine dbn (fun v w'=>IsNum w' v (p.getD i 0)) rfl (fun _ _ _ h1 hx h=>h.extS hx (hnw.ext h1)) (fun σ wx hE G C=>zW C.1 (D.extS hE (nin1 ah) hnw) fun v h=>⟨Ext.refl _,h⟩) (dbn (fun v w'=>IsNum w' v (q.getD j 0)) rfl (fun _ _ _ h1 hx h=>h.extS hx (hnw.ext h1)) (fun σ wx hE G C=>zW C.1 (hNB.extS hE (nin1 Y) hnw) fun v h=>⟨Ext.refl _,h⟩) (dbn (fun v w'=>IsNum w' v (p.getD i 0*q.getD j 0)) rfl (fun _ _ _ h1 hx h=>h.extS hx (hnw.ext h1)) (fun σ wx hE G C=>zJ yB (CallK.of_ret (Mul_ok C.1 C.2.1 az) fun v w2 hX V=>⟨hX,V⟩) rfl) (dbn (fun v w'=>IsNum w' v (H.getD (i+j) 0+p.getD i 0*q.getD j 0)) rfl (fun _ _ _ h1 hx h=>h.extS hx (hnw.ext h1)) (fun σ wx hE G C=>zJ yB (CallK.of_ret (zFH C.1 C.2.1 aA) fun v w2 hX V=>⟨hX,V⟩) rfl) (dbv rfl (fun σ wx hE G C=>zCV C.1 C.2.1 oM ⟨Ext.refl _,rfl⟩) (dss _ rfl (fun σ wx hE hpre C=>zBE C.1 rfl C.2.1 hpre oM fun v w2 U hN=>⟨U,hN⟩) (zAJ (hK _ fun wq hS hP => ?_)))))));rintro _ rfl _ rfl _ rfl _ rfl _ rfl _ rfl _ rfl _ rfl _ rfl v42 N42 v43 N43 v44 N44 v45 N45 v46 N46 _ rfl _ _;refine zY ?_;obtain ⟨aB,-⟩:=hP
       replace E0:=E0.updS hS hob;replace D:=D.extS hS (nin1 ah) hnw;clear B;have B:=aB;refine zN (zK (K5 [1,5,6,7,16,17,18,26,27,28] ?_));refine K6 (K8 rfl (mv (rl (zL ?_))));exact ⟨rfl,j+1,⟨kw,oM,E0,D,_,by simp [I],B,by rw [<- iB];exact F⟩,oM⟩
     . have aC:=f_lt hc;obtain rfl:j=q.length:=by omega
       rw [eO] at F;obtain rfl:H=O2:=dj F;exact zT (zt (zf (zI (zN (zK (K6 (K8 rfl (mv (rl (zL (⟨rfl,i+1,⟨kw,oM,E0,H,I,J,ai⟩,oM⟩)))))))))))
 . have aC:=f_lt hc;obtain rfl:i=p.length:=by omega
   rw [eO] at hA;obtain rfl:O=R:=dj hA;refine zT (zt (zf (zI (zK (rj (mv ?_))))));have hsz:=E0.size;refine K1 (j0 E0 yB (zBS (l:=O) ⟨some ⟨M,0,none⟩,p.length+q.length,by rw [ab];rfl,oM,B.rd,oM⟩) fun v9 w9 E0 V => ?_);rw [av] at V;refine ag (rM 458802 ?_);exact zE (en rfl E0 (V.sz hsz))
variable {w':World}
theorem PBlk.extS {S:List Nat} (h:PBlk w b l) (e:ExtS S w w') (j:b ∉ S) (B:NoW S w):PBlk w' b l:=by
 obtain ⟨cs,C,D,F⟩:=h;exact ⟨cs,C.extS e j,D,fun i G=>(F i G).extS e B⟩
theorem zDl {p q:List Rat} {qq rr:List Rat} (U:IsPoly w u p) (hq:IsPoly w v q) (h:pdiv p q=some (qq,rr)):Ret prog 254 #[u,v] w (fun r w'=>∃ a b,r = .tuple #[a,b]/\IsOwn w.heap.size w' a qq/\IsOwn w.heap.size w' b rr):=by
 have Y:trim q≠[]:=fun e=>by rw [pdiv,cD e] at h;cases h
 rw [pdiv,ct Y] at h;have E0:Ext w w:=Ext.refl w;refine J0 69 func254 rfl (rj (ag (ag (rM 51 ?_))));refine rJ (K1 (zJ yB (CallK.of_ret (zBS U) fun v11 w2 hE hT1 => ?_) rfl));have aB:=E0.size;obtain ⟨E0,hq⟩:=V1 hE E0 hq.ext;refine mv ?_;have hsz2:=E0.size;have hlt1:=hT1.poly;refine K1 (zJ yB (CallK.of_ret (zBS hq) fun v13 w3 hE hT2 => ?_) rfl);obtain ⟨rp,rc,rfl,ai,J,bo,aK⟩:=hT1;obtain ⟨qp,qc,rfl,aM,C,aN,aO⟩:=hT2;obtain ⟨Z,rfl,bf⟩:=aO Y;have hqr:trim p≠[]->∃ I,rp=some ⟨I,0,none⟩/\w.heap.size<=I/\I≠Z:=fun h0=>by
  obtain ⟨I,e1,e2⟩:=aK h0;obtain ⟨a,a1,a2⟩:=J.lt h0;rw [e1] at a1;cases a1;exact ⟨I,e1,dz aB e2,by simp only at a2;omega⟩
 obtain ⟨E0,J⟩:=V1 hE E0 J.ext;refine ag (ag (rM 50 ?_));refine rJ (K1 (zG zAC rfl (mv (K1 (zG zAC rfl (K1 (zC (v := .int .i64 (((trim p).length:Int)-((trim q).length:Int))) rfl rfl (sI (zm oM oM)) (K1 (zC (v := .int .i64 (((trim p).length:Int)-((trim q).length:Int)+1)) rfl rfl (sI (zm oM oM)) (K1 (zFd rfl rfl ?_)))))))))));rw [show (if ((trim p).length:Int)-((trim q).length:Int)+1<(0:Int) then (0:Int) else ((trim p).length:Int)-((trim q).length:Int)+1)=((((trim p).length+1-(trim q).length):Nat):Int) from by split<;>omega];refine K1 (zAK zAs zFT rfl rfl rfl oM oM oM fun zb w5 hb1 hE hB hs => ?_);have hzb:w.heap.size<=zb:=by rw [hb1];exact E0.size
 have aP:Z≠zb:=by obtain ⟨a,a1,a2⟩:=C.lt Y;cases a1;simp only at a2;omega
 have aj:trim p≠[]->∃ I,rp=some ⟨I,0,none⟩/\w.heap.size<=I/\I≠Z/\I≠zb:=fun h0=>by
  obtain ⟨I,e1,e2,e3⟩:=hqr h0;obtain ⟨a,a1,a2⟩:=J.lt h0;rw [e1] at a1;cases a1;exact ⟨I,e1,e2,e3,by simp only at a2;omega⟩
 obtain ⟨E0,C,J⟩:=V2 hE E0 C.ext J.ext;rw [show ((((trim p).length+1-(trim q).length):Nat):Int).toNat=((trim p).length+1-(trim q).length) from by omega] at hB ⊢;have D:=PBlk.zeros hB;refine ag (rM 50 ?_);refine zA (zF (zX (X:=Nat) (fun f ρ w'=>∃ rp rc B quo,Keep ρ [(1,.slice (some ⟨Z,0,none⟩) (trim q).length qc),(4,.slice (some ⟨zb,0,none⟩) ((trim p).length+1-(trim q).length) ((trim p).length+1-(trim q).length)),(5,.slice rp B.length rc)]/\Ext w w'/\PRd w' (some ⟨Z,0,none⟩) (trim q)/\quo.length=((trim p).length+1-(trim q).length)/\PBlk w' zb quo/\PRd w' rp B/\B.length<=rc/\B.length<=(trim p).length/\(B≠[]->∃ I,rp=some ⟨I,0,none⟩/\w.heap.size<=I/\I≠Z/\I≠zb)/\divL (trim q) f B quo=some (qq,rr)) (fun f=>f) ((trim p).length+1) ⟨rp,rc,trim p,_,(kp rfl),E0,C,sM,D,J,ai,cX _,aj,h⟩ ?_));rintro f ρ1 w1 ⟨rp,rc,B,quo,F,E0,C,ax,D,J,ai,bg,aj,hA⟩;refine wpe_k _ F ?_;refine zA (zA ?_);rcases f with _ | f
 . cases hA
 unfold divL at hA;refine rI (K1 (zG zAC rfl (mv (K1 (zG zAC rfl (K8 rfl (rS 67108914 ?_)))))));refine K0 rfl ?_ ?_<;>intro hc
 . have ao:¬ B.length<(trim q).length:=by have:=dh hc;omega
   rw [ct ao] at hA;obtain ⟨c,aQ,hA⟩:=bind_some hA;obtain ⟨aR,aS⟩:=zFb aQ;obtain ⟨R,hR,hA⟩:=bind_some hA;have hq1:0<(trim q).length:=eC.2 Y;have hr0:B≠[]:=fun e=>by rw [e] at ao;simp only [List.length_nil] at ao;omega
   obtain ⟨I,rfl,aC,aD,al⟩:=aj hr0;have G:=J.blk hr0;refine sk (zF (rJ (K1 (j3 E0 C.ext D.ext G.ext yB (zPN (l:=B) ⟨_,rc,rfl,ai,G.rd,oM⟩ hr0) fun v28 w6 E0 C D G N28=>mv (K1 (j4 E0 C.ext D.ext G.ext N28.ext yB (zPN (l:=trim q) ⟨_,qc,rfl,aM,C,aN⟩ Y) fun v30 w6 E0 C D G N28 N30=>K1 (zJ yB (CallK.of_ret (zNN N28 N30 aR) fun v31 w6 hE ak => ?_) rfl)))))));rw [<- aS] at ak;obtain ⟨E0,C,D,G⟩:=V3 hE E0 C.ext D.ext G.ext;refine mv (K1 (zG zAC rfl (mv (K1 (zG zAC rfl (K1 (zAL (B.length-(trim q).length) rfl rfl oM oM ?_)))))));refine K1 (zR zAt fun cb w7 hb hE hBc hs => ?_);have hgc:w.heap.size<=cb:=by rw [hb];exact E0.size
   have ap:cb≠I:=by have:=G.lt;omega
   have ay:cb≠zb:=by have:=D.lt;omega
   have aU:Z≠cb:=by obtain ⟨a,a1,a2⟩:=C.lt Y;cases a1;simp only at a2;omega
   obtain ⟨E0,C,D,G,ak⟩:=V4 hE E0 C.ext D.ext G.ext ak.ext;refine K1 (zO rfl ak (Cell3.of hBc rfl) fun _ w9 V H => ?_);replace E0:=E0.upd V hgc;replace C:=C.upd V hBc (fun a ha _=>by cases ha;exact aU);replace D:=D.upd V hBc (eH ay);replace G:=G.upd V hBc (eH ap);refine ag (rM 242 ?_);refine rJ (mv (K1 (zW rfl H fun v39 N39=>K1 (zCV rfl rfl oM (K1 (zBE (l:=quo) (k:=(B.length-(trim q).length)) rfl rfl N39 D oM fun _ w9 V hZ2 => ?_))))));replace E0:=E0.upd V hzb;obtain ⟨bp,aq,-⟩:=D;replace C:=C.upd V aq (fun a ha _=>by cases ha;exact aP);replace G:=G.upd V aq al;replace H:=H.upd V aq ay;have D:=hZ2;refine rM 242 ?_;refine zA (rJ (K1 (zG zAC rfl (mv (rM 15393162789106 ?_)))))
   refine zF (zX (X:=Nat) (fun j ρ w'=>Keep ρ [(1,.slice (some ⟨Z,0,none⟩) (trim q).length qc),(4,.slice (some ⟨zb,0,none⟩) ((trim p).length+1-(trim q).length) ((trim p).length+1-(trim q).length)),(5,.slice (some ⟨I,0,none⟩) B.length rc),(6,.pointer (some ⟨cb,0,none⟩)),(7,.int .i64 ((B.length-(trim q).length:Nat):Nat)),(41,.slice (some ⟨Z,0,none⟩) (trim q).length qc),(42,.int .i64 ((trim q).length:Nat)),(43,.int .i64 (j:Nat))]/\j<=(trim q).length/\Ext w w'/\PRd w' (some ⟨Z,0,none⟩) (trim q)/\PBlk w' zb (quo.set (B.length-(trim q).length) c)/\NumAt cb c w'/\∃ O,O.length=B.length/\PBlk w' I O/\zHJ c ((trim q).drop j) ((B.length-(trim q).length)+j) O=some R) (fun j=>(trim q).length-j) 0 ⟨(kp rfl),di _,E0,C,D,H,B,rfl,G,hR⟩ ?_);rintro j ρ3 w3 ⟨F,bq,E0,C,D,H,O,az,M,Q⟩;refine wpe_k _ F ?_;refine rj (K8 rfl (rM 32985348833522 ?_));refine zA ?_;refine K0 rfl ?_ ?_<;>intro hc
   . have ar:j<(trim q).length:=t_lt hc;rw [zFP ar] at Q;unfold zHJ at Q;obtain ⟨m,hm,Q⟩:=bind_some Q;obtain ⟨s1,aV,Q⟩:=bind_some Q;obtain ⟨aW,rfl⟩:=zEB hm;obtain ⟨aX,rfl⟩:=zOv aV;refine sk (zA (zF (rJ (K1 (runs_pindex (l:=trim q) C rfl rfl ar (K1 (runs_pload C ar rfl fun v33 au => ?_)))))));refine K1 (zR zAt fun ab w7 hb hE hBc hs => ?_);have hgc3:w.heap.size<=ab:=by rw [hb];exact E0.size
     have aA:ab≠I:=by have:=M.lt;omega
     have aY:cb≠ab:=by have:=H.lt;omega
     have aZ:zb≠ab:=by have:=D.lt;omega
     have a0:Z≠ab:=by obtain ⟨a,a1,a2⟩:=C.lt Y;cases a1;simp only at a2;omega
     obtain ⟨E0,au,M,H,D,C⟩:=V5 hE E0 au.ext M.ext H.ext D.ext C.ext;refine ag (K1 (zO rfl au (Cell3.of hBc rfl) fun _ w9 V hNB => ?_));replace E0:=E0.upd V hgc3;replace M:=M.upd V hBc (eH aA);replace H:=H.upd V hBc aY;replace D:=D.upd V hBc aZ;replace C:=C.upd V hBc (fun a ha _=>by cases ha;exact a0);refine rM 15393162789874 ?_;have hnw:NoW [I] _:=noWP M
     refine zAy true [⟨15,I,fun w=>PBlk w I (O),fun w=>PBlk w I (O.set ((B.length-(trim q).length)+j) (O.getD ((B.length-(trim q).length)+j) 0-c*(trim q).getD j 0))⟩] [[10],[14],[16],[3,1],[10],[14],[16],[3,1],[7,1],[1],[12],[18],[3,1],[7,1],[27,21],[1,3]] mixed kR sM (all1 (zJr M)) fun K hK=>dbv rfl (fun σ wx hE U F=>zAH ⟨Ext.refl _,F.1⟩) (dbv rfl (fun σ wx hE U F=>zAH ⟨Ext.refl _,F.1⟩) (dbv rfl (fun σ wx hE U F=>zAH ⟨Ext.refl _,F.1⟩) (dbv rfl (fun σ wx hE U F=>zg ((B.length-(trim q).length)+j) F.1 F.2.1 rfl oM ⟨Ext.refl _,rfl⟩) (dbv rfl (fun σ wx hE U F=>zAH ⟨Ext.refl _,F.1⟩) (dbv rfl (fun σ wx hE U F=>zAH ⟨Ext.refl _,F.1⟩) (dbv rfl (fun σ wx hE U F=>zAH ⟨Ext.refl _,F.1⟩) (dbv rfl (fun σ wx hE U F=>zg ((B.length-(trim q).length)+j) F.1 F.2.1 rfl oM ⟨Ext.refl _,rfl⟩) (dbv rfl (fun σ wx hE U F=>zCV F.1 F.2.1 oM ⟨Ext.refl _,rfl⟩) ?_))))))));refine dbn (fun v w'=>IsNum w' v (O.getD ((B.length-(trim q).length)+j) 0)) rfl (fun _ _ _ h1 hx h=>h.extS hx (hnw.ext h1)) (fun σ wx hE U F=>zCH F.1 rfl (U _ (dI.2 rfl) (.inl ⟨rfl,by show _<(15:Nat);decide⟩)) oM fun v h=>⟨Ext.refl _,h⟩) ?_
     refine dbn (fun v w'=>IsNum w' v c) rfl (fun _ _ _ h1 hx h=>h.extS hx (hnw.ext h1)) (fun σ wx hE U F=>zW F.1 (H.extS hE (nin1 ap) hnw) fun v h=>⟨Ext.refl _,h⟩) (dbn (fun v w'=>IsNum w' v ((trim q).getD j 0)) rfl (fun _ _ _ h1 hx h=>h.extS hx (hnw.ext h1)) (fun σ wx hE U F=>zW F.1 (hNB.extS hE (nin1 aA) hnw) fun v h=>⟨Ext.refl _,h⟩) (dbn (fun v w'=>IsNum w' v (c*(trim q).getD j 0)) rfl (fun _ _ _ h1 hx h=>h.extS hx (hnw.ext h1)) (fun σ wx hE U F=>zJ yB (CallK.of_ret (Mul_ok F.1 F.2.1 aW) fun v w2 hX hr=>⟨hX,hr⟩) rfl) (dbn (fun v w'=>IsNum w' v (O.getD ((B.length-(trim q).length)+j) 0-c*(trim q).getD j 0)) rfl (fun _ _ _ h1 hx h=>h.extS hx (hnw.ext h1)) (fun σ wx hE U F=>zJ yB (CallK.of_ret (zQP F.1 F.2.1 aX) fun v w2 hX hr=>⟨hX,hr⟩) rfl) (dbv rfl (fun σ wx hE U F=>zCV F.1 F.2.1 oM ⟨Ext.refl _,rfl⟩) (dss _ rfl (fun σ wx hE hpre F=>zBE F.1 rfl F.2.1 hpre oM fun v w2 V hN=>⟨V,hN⟩) (zAJ (hK _ fun wq hS hP => ?_)))))));rintro _ rfl _ rfl _ rfl _ rfl _ rfl _ rfl _ rfl _ rfl _ rfl v57 N57 v58 N58 v59 N59 v60 N60 v61 N61 _ rfl _ _;refine zY ?_;obtain ⟨a9,-⟩:=hP;replace E0:=E0.updS hS aC;replace H:=H.extS hS (nin1 ap) hnw;replace C:=C.extS hS (fun a ha _=>by cases ha;exact nin1 (eH aD)) hnw;replace D:=D.extS hS (nin1 (eH al)) hnw;clear M;have M:=a9
     refine zN (zK (K5 [1,4,5,6,7,41,42,43] ?_));refine K6 (K8 rfl (mv (rl (zL ?_))));exact ⟨rfl,j+1,⟨kw,oM,E0,C,D,H,_,by simp [az],M,by rw [<- iB];exact Q⟩,oM⟩
   . have br:=f_lt hc;obtain rfl:j=(trim q).length:=by omega
     rw [eO] at Q;obtain rfl:O=R:=dj Q;refine zT (zt (zf (zI (zK (K6 (mv ?_))))));have hsz:=E0.size;have hbb:Z<_/\zb<_:=⟨by obtain ⟨a,a1,a2⟩:=C.lt Y;cases a1;exact a2,D.lt⟩;refine K1 (zJ yB (CallK.of_ret (zBS (l:=O) ⟨some ⟨I,0,none⟩,rc,by rw [az];rfl,oM,M.rd,oM⟩) fun v9 w9 hE hr => ?_) rfl);obtain ⟨np,nc,rfl,ba,bb,bs,aE⟩:=hr;have bc:trim O≠[]->∃ b,np=some ⟨b,0,none⟩/\w.heap.size<=b/\b≠Z/\b≠zb:=fun h0=>by
      obtain ⟨b,e1,e2⟩:=aE h0;exact ⟨b,e1,oM,oM,oM⟩
     obtain ⟨E0,C,D⟩:=V2 hE E0 C.ext D.ext;exact ag (rl (zN (zL (⟨rfl,f,⟨np,nc,trim O,quo.set (B.length-(trim q).length) c,(kp rfl),E0,C,by simp [ax],D,bb,ba,dz (zAV O) oM,bc,hA⟩,oM⟩))))
 . have bd:B.length<(trim q).length:=by have:=de hc;omega
   rw [cD bd] at hA;cases hA;refine zT (zt (zf (zI (zK (rj (mv ?_))))));have hsz:=E0.size;refine K1 (j1 E0 J.ext yB (zBS (l:=quo) ⟨some ⟨zb,0,none⟩,_,by rw [ax];rfl,oM,D.rd,oM⟩) fun v9 w9 E0 J hr => ?_);refine mv (ag (ag (rM 50 ?_)));refine zE (zM ?_);exact ⟨rfl,_,zv rfl rfl rfl,E0,_,_,rfl,hr.sz hsz,rp,rc,rfl,ai,J,oM,fun h0=>let ⟨b,e1,e2,_⟩:=aj h0;⟨b,e1,e2⟩⟩
theorem zFn {p q s:List Rat} (j:IsPoly w u p) (B:IsPoly w v q) (h:zCO p q=some s):Ret prog 170 #[u,v] w (fun r w'=>IsOwn w.heap.size w' r s):=by
 obtain ⟨⟨D,t⟩,C,he⟩:=map_some h;simp only at he;subst he;refine J0 14 func170 rfl (rj (ag (rM 3 ?_)));refine rJ (mv (K1 (zJ yB (CallK.of_ret (zDl j B C) fun v10 w10 hE hr => ?_) rfl)));obtain ⟨a,b,rfl,e,-⟩:=hr;replace E0:=E0.trans hE;refine mv (xt rfl (xt rfl (ag (ag (rm [5] ?_)))));refine rJ (ag (rm [4] ?_));exact zE (en rfl E0 e)
theorem zGI {p q s:List Rat} (Y:IsPoly w u p) (G:IsPoly w v q) (h:zBt p q=some s):Ret prog 168 #[u,v] w (fun r w'=>IsOwn w.heap.size w' r s):=by
 obtain ⟨Z,h1,h⟩:=bind_some h;obtain ⟨q1,h2,h3⟩:=bind_some h;have E0:Ext w w:=Ext.refl w;refine J0 24 func168 rfl (rj (ag (rM 3 ?_)));refine rJ (K1 (zJ yB (CallK.of_ret (zDQ Y h1) fun v8 w2 hE C => ?_) rfl));have O:=E0.size;obtain ⟨E0,G⟩:=V1 hE E0 G.ext;refine mv (K1 (zJ yB (CallK.of_ret (zDQ G h2) fun v10 w3 hE D => ?_) rfl));replace D:=D.sz E0.size;obtain ⟨E0,C⟩:=V1 hE E0 C.ext;refine ag (ag (rM 3 ?_));refine zA (zF (zX (X:=Nat) (fun f ρ w'=>∃ H I P Q,Keep ρ [(0,H),(1,I)]/\Ext w w'/\IsOwn w.heap.size w' H P/\IsOwn w.heap.size w' I Q/\zBT f P Q=some s) (fun f=>f) (q1.length+1) ⟨_,_,Z,q1,(kp rfl),E0,C.sz O,D,h3⟩ ?_));rintro f ρ1 w1 ⟨H,I,P,Q,hk,E0,V,B,j⟩;have hQ0:=B;obtain ⟨qp,qc,rfl,-,-,-,-⟩:=hQ0;refine wpe_k _ hk ?_;refine zA (zA ?_);rcases f with _ | f
 . cases j
 unfold zBT at j;refine rI (K1 (zG zAC rfl (K8 rfl (rS 8195 ?_))));refine K0 rfl ?_ ?_<;>intro J
 . have M:Q≠[]:=fun e=>by rw [e] at J;cases J
   rw [ct M] at j;obtain ⟨⟨dq,dr⟩,hd,j⟩:=bind_some j;obtain ⟨m,hm,j⟩:=bind_some j;refine sk (zF (rJ (mv (K1 (zJ yB (CallK.of_ret (zDl V.poly B.poly hd) fun v17 w10 hE hr => ?_) rfl)))));obtain ⟨a,b,rfl,-,U⟩:=hr;obtain ⟨E0,B⟩:=V1 hE E0 B.ext;refine mv (xt rfl (xt rfl (ag (ag (rM 66 ?_)))));refine rI (mv (K1 (zJ yB (CallK.of_ret (zDQ U.poly hm) fun v22 w11 hE hM => ?_) rfl)));have F:=E0.size;obtain ⟨E0,B⟩:=V1 hE E0 B.ext;exact ag (ag (rl (zN (zL (⟨rfl,f,⟨_,_,Q,m,(kp rfl),E0,B,hM.sz F,j⟩,oM⟩)))))
 . have M:Q=[]:=ef (by have:=de J;omega);rw [cD M] at j;cases j;refine zT (zt (zf (zI (zK (rJ (ag (rM 18 ?_)))))));exact zE (en rfl E0 V)
variable {K K':Value->World->Prop} {P:Program} {args:Array Value} {bx c i:Nat} {w0:World}
theorem zBv:Plain prog 25:=pU
theorem numStOkB {q e:Rat} (C:NumAt b q w0) :
 (⟨i,b,NumAt b q,NumAt b e⟩:StoreSpec).blk<w0.heap.size/\(⟨i,b,NumAt b q,NumAt b e⟩:StoreSpec).pre w0/\∀ w w',ExtS [b] w0 w->ExtS [b] w w'->w'.heap[(⟨i,b,NumAt b q,NumAt b e⟩:StoreSpec).blk]? = w.heap[(⟨i,b,NumAt b q,NumAt b e⟩:StoreSpec).blk]? ->
  ((⟨i,b,NumAt b q,NumAt b e⟩:StoreSpec).pre w->(⟨i,b,NumAt b q,NumAt b e⟩:StoreSpec).pre w')/\((⟨i,b,NumAt b q,NumAt b e⟩:StoreSpec).post w->(⟨i,b,NumAt b q,NumAt b e⟩:StoreSpec).post w'):=by
 have j:∀ (w w':World) (z:Rat),ExtS [b] w w'->w'.heap[b]? = w.heap[b]?->NumAt b z w->NumAt b z w':=fun w w' z B he h=>by
  obtain ⟨cs,D,F,G⟩:=h;exact ⟨cs,by show w'.heap[b]? = _;rw [he];exact D,F,G.extS B (noW1 D dE)⟩
 exact ⟨C.lt,C,fun w w' _ B he=>⟨j w w' q B he,j w w' e B he⟩⟩
theorem NumAt.cell {q:Rat} (h:NumAt b q w):Cell3 b w:=by obtain ⟨cs,e,j,_⟩:=h;exact ⟨cs,e,j⟩
theorem NumAt.now {q:Rat} (h:NumAt b q w):NoW [b] w:=by obtain ⟨cs,e,j,_⟩:=h;exact noW1 e dE
def encB (p:List Rat) (i:Nat) (args:Array Value) (w:World):Prop:=∃ v,args = #[.int .i64 ((p.length-1-i:Nat):Int),v]/\IsNum w v (p.getD (p.length-1-i) 0)
theorem CallK.conv {l:Nat} (h:zLY P l args w K) (D:∀ v w',K v w'->K' v w'):zLY P l args w K':=by
 obtain ⟨fn,B,j,C,F,G⟩:=h;exact ⟨fn,B,j,C,F,G.mono fun e w' ⟨v,he,H⟩=>⟨v,he,D v w' H⟩⟩
theorem zJG {O:World->World->Prop} {Q:Nat} {pp:Option Addr} {p:List Rat} (Z:p.length<=4096) (l:Nat) (J:Nat->World->Prop) (B:∀ i w1,J i w1->Blk w1 bx 25 [.slice pp p.length Q]/\PRd w1 pp p) (U:∀ i,i<p.length->∀ args w1,J i w1->encB p i args w1->zLY prog l args w1 (fun u w2=>u = .bool true/\J (i+1) w2/\O w1 w2)) (w:World) (M:J 0 w):CallK prog 213 #[.func (.yield l) #[] #[],.pointer (some ⟨bx,0,none⟩)] w (fun _ w2=>J p.length w2):=by
 refine zDx 19 func213 rfl rfl (cw rfl) (zA ?_);obtain ⟨e,h⟩:=B _ _ M;refine K6 (K1 (zD zBv rfl e rfl (K1 (zG zAC rfl (K1 (zC (v := .int .i64 (((p.length:Nat):Int)-1)) rfl rfl (sI (zm oM oM)) (ag (rS 11 ?_))))))));refine zF ?_;refine zX (X:=Nat) (fun k ρ w'=>Keep ρ [(0,.func (.yield l) #[] #[]),(1,.pointer (some ⟨bx,0,none⟩)),(3,.int .i64 (((k:Nat):Int)-1))]/\k<=p.length/\J (p.length-k) w') (fun k=>k) p.length ⟨(kp rfl),cX _,by rw [fM];exact M⟩ ?_;rintro k ρ1 w1 ⟨V,Y,G⟩;refine wpe_k _ V ?_;refine zA (zA ?_);rcases k with _ | j
 . skip
   refine rI (K8 rfl (rS 267 ?_));exact wcf vF (zT (zt (zf (zI (zQq ⟨rfl,_,zGl rfl,by simpa using G⟩)))))
 . obtain ⟨e,h⟩:=B _ _ G;have C:((j+1:Nat):Int)-1=(j:Int):=by omega
   have H:IntKind.i64.wrap (((j+1:Nat):Int)-1-1)=(j:Int)-1:=by rw [zm oM oM];omega
   refine rI (K8 rfl (rS 267 ?_));refine wct vT (sk (zA (zF (rJ (mv (K1 (zD zBv rfl e rfl (mv (K1 (runs_pindex (l:=p) (ix:=j) h rfl (cW (Value.int .i64) C) oM (K1 (runs_pload h (i:=j) oM rfl fun D I=>K1 (zMM rfl ?_)))))))))))));refine CallK.conv (U (p.length-(j+1)) oM #[.int .i64 (((j+1:Nat):Int)-1),D] _ G ⟨D,by rw [C,show p.length-1-(p.length-(j+1))=j from by omega],by rw [show p.length-1-(p.length-(j+1))=j from by omega];exact I⟩) ?_;rintro _ w3 ⟨rfl,F,-⟩;rw [show p.length-(j+1)+1=p.length-j from by omega] at F;refine K1 (zp rfl (rM 262155 ?_));exact wcf rfl (zw (zN (zK (rI (K8 rfl (ag (rl (zL (⟨rfl,j,⟨⟨rfl,rfl,rfl,rfl,rfl,cW (Value.int .i64) H,trivial⟩,oM,F⟩,oM⟩)))))))))
theorem zJy {p:Option Addr}:Ret prog 119 #[.slice p n c] w (fun r w'=>∃ bx,r = .func (.func 213) #[] #[.pointer (some ⟨bx,0,none⟩)]/\Blk w' bx 25 [.slice p n c]/\w.heap.size<=bx):=by
 refine J0 4 func119 rfl (rj ?_);refine K1 (zn (Z0 E0 fun b1 w1 E0 e h=>ag (rM 2 ?_)));refine rj (K1 (zCj (ag (rM 4 ?_))));exact zE (en rfl E0 ⟨b1,rfl,h,e⟩)
theorem zCA {p:List Rat} (Z:IsPoly w u p) (M:IsNum w v x) (h:peval p x=some y):Ret prog 176 #[u,v] w (fun r w'=>IsNum w' r y):=by
 obtain ⟨pp,pc,rfl,aK,ar,au⟩:=Z;unfold peval at h;have hx0:=M;obtain ⟨xn,xd,rfl,aM,aN⟩:=hx0;have E0:Ext w w:=Ext.refl w;refine zLD 18 func176 rfl rfl (cw rfl) (rj ?_);refine K1 (zn (Z1 E0 M.ext fun b1 w1 E0 M hgb1 O => ?_));refine K1 (zR zAt (Z2a E0 M.ext O.ext O.lt fun b2 w2 E0 M O hgb2 ne_b1_b2 j=>rM 25 ?_));refine rj ?_;refine K1 (zR zAt (Z3b E0 M.ext O.ext j.ext O.lt j.lt fun V w3 E0 M O j hgb3 ne_b1_b3 ne_b2_b3 X=>rM 57 ?_));refine zA (rJ (K1 (zJ yB (CallK.of_ret zJy fun v9 w9 H hr => ?_) rfl)));obtain ⟨bx,rfl,G,aO⟩:=hr;have hx3:bx≠V:=by have:=X.lt;omega
 obtain ⟨E0,O,j,X,M⟩:=V4 H E0 O.ext j.ext X.ext M.ext;refine rM 568 ?_;refine zF ?_;have B:NumAt b1 x _:=⟨_,O,rfl,M⟩;have C:NumAt V 0 _:=⟨_,X,rfl,IsNum.zero⟩;have hl1:w.heap.size<=_:=E0.size
 refine zLR rfl rfl yB dE (fun i w'=>Ext w w'/\NumAt b1 x w'/\Blk w' b2 37 [Value.bool false,Value.slice none 0 0,Value.slice none 0 0]/\Blk w' bx 25 [.slice pp p.length pc]/\∃ F,NumAt V F w'/\evalL x (p.take (p.length-i)).reverse F=some y) (fun _ _=>True) p.length (encB p)
  (fun i args w1 h=>by obtain ⟨v,e,_⟩:=h;rw [e];rfl)
  (fun w1 H=>⟨E0.trans H,B.ext H,j.ext H,G.ext H,0,C.ext H,by rw [Nat.sub_zero,ej];exact h⟩)
  (fun i w1 w2 hI H=>by obtain ⟨g1,g2,g3,g4,F,g5,g6⟩:=hI;exact ⟨g1.trans H,g2.ext H,g3.ext H,g4.ext H,F,g5.ext H,g6⟩)
  (fun i l w1 w2 hl hI I=>by obtain ⟨g1,g2,g3,g4,F,g5,g6⟩:=hI;exact ⟨g1.oth I oM,g2.le I.le,g3.oth I,g4.oth I,F,g5.le I.le,g6⟩)
  (fun l J aP av hy w1 _ h0=>zJG au l J (fun i w2 hJ=>by obtain ⟨g1,g2,g3,g4,_⟩:=av i w2 hJ;exact ⟨g4,ar.ext g1⟩) hy w1 h0)
  ?_ ?_
 . rintro l i args w1 hl hi ⟨E0,B,j,G,F,C,U⟩ ⟨c,rfl,Y⟩;obtain ⟨m,hm⟩:∃ m,p.length-i=m+1:=⟨p.length-i-1,oM⟩;rw [show p.length-1-i=m from by omega] at Y ⊢;rw [hm,zFx oM,List.reverse_append] at U;unfold evalL at U;obtain ⟨t1,aw,U⟩:=bind_some U;obtain ⟨t2,ax,U⟩:=bind_some U;obtain ⟨ay,rfl⟩:=zEB aw;obtain ⟨az,rfl⟩:=zGV ax;refine wpe_k [(3,.pointer (some ⟨b1,0,none⟩)),(5,.pointer (some ⟨V,0,none⟩)),(11,c)] (kp rfl) ?_;have hw1:=E0.size;refine K6 ?_;refine K1 (zR zAt fun Q w7 hb H hBc hs => ?_);have hgc:w.heap.size<=Q:=by rw [hb];exact hw1
   have aj:Q≠V:=by have:=C.lt;omega
   have aA:b1≠Q:=by have:=B.lt;omega
   have aB:b2≠Q:=by have:=j.lt;omega
   have aC:bx≠Q:=by have:=G.lt;omega
   have aa:=NC.ext H;obtain ⟨E0,Y,B,j,G,C⟩:=V5 H E0 Y.ext B.ext j.ext G.ext C.ext;refine K1 (zO rfl Y (Cell3.of hBc rfl) fun _ w9 hU hNA => ?_);replace aa:=aa.trans (NC.upd hU hBc);replace E0:=E0.upd hU hgc;replace B:=B.upd hU hBc aA;replace j:=j.upd hU aB;replace G:=G.upd hU aC;replace C:=C.upd hU hBc (eH aj);refine rl ⟨rfl,rfl,aa,fun w5 I => ?_⟩;replace E0:=E0.oth I oM;replace B:=B.le I.le;replace j:=j.oth I;replace G:=G.oth I;replace C:=C.le I.le;replace hNA:=hNA.le I.le;refine zF ?_;have hnw:NoW [V] _:=C.now;have hN3c:=C;obtain ⟨aQ,ak,-,-⟩:=hN3c;refine zAy true [⟨5,V,NumAt V F,NumAt V (F*x+p.getD m 0)⟩] [[10],[6],[3,1],[14],[3,1],[10,1]] mixed kR sM (all1 (numStOkB C)) fun K hK => ?_;refine dbn (fun v w'=>IsNum w' v F) rfl (fun _ _ _ h1 M h=>h.extS M (hnw.ext h1)) (fun σ wx H Z hk=>zW hk.1 (Z _ (dI.2 rfl) (.inl ⟨rfl,by show _<(5:Nat);decide⟩)) fun v h=>⟨Ext.refl _,h⟩) ?_
   refine dbn (fun v w'=>IsNum w' v x) rfl (fun _ _ _ h1 M h=>h.extS M (hnw.ext h1)) (fun σ wx H Z hk=>zW hk.1 (B.extS H (nin1 ne_b1_b3) hnw) fun v h=>⟨Ext.refl _,h⟩) (dbn (fun v w'=>IsNum w' v (F*x)) rfl (fun _ _ _ h1 M h=>h.extS M (hnw.ext h1)) (fun σ wx H Z hk=>zJ yB (CallK.of_ret (Mul_ok hk.1 hk.2.1 ay) fun v w2 hX hr=>⟨hX,hr⟩) rfl) (dbn (fun v w'=>IsNum w' v (p.getD m 0)) rfl (fun _ _ _ h1 M h=>h.extS M (hnw.ext h1)) (fun σ wx H Z hk=>zW hk.1 (hNA.extS H (nin1 aj) hnw) fun v h=>⟨Ext.refl _,h⟩) (dbn (fun v w'=>IsNum w' v (F*x+p.getD m 0)) rfl (fun _ _ _ h1 M h=>h.extS M (hnw.ext h1)) (fun σ wx H Z hk=>zJ yB (CallK.of_ret (zFH hk.1 hk.2.1 az) fun v w2 hX hr=>⟨hX,hr⟩) rfl) (dss _ rfl (fun σ wx H hpre hk=>zBY hk.1 hk.2.1 hpre.cell) (zAJ (hK _ fun wq hS hP => ?_))))));rintro v12 N12 v13 N13 v14 N14 v15 N15 v16 N16 _ _;refine zY ?_;obtain ⟨ab,-⟩:=hP;replace E0:=E0.updS hS hgb3;replace B:=B.extS hS (nin1 ne_b1_b3) hnw;replace j:=j.extS hS (nin1 ne_b2_b3);replace G:=G.extS hS (nin1 hx3);refine zN ?_;refine ⟨rfl,NC.extS hS ak,fun w8 I=>⟨⟨E0.oth I oM,B.le I.le,j.oth I,G.oth I,_,ab.le I.le,by rw [show p.length-(i+1)=m from by omega];exact U⟩,trivial⟩⟩
 . rintro D w2 hD ⟨E0,B,j,G,F,C,U⟩ ad;rw [fM] at U;obtain rfl:F=y:=dj U;refine zN (zK (rj (K1 (zW rfl C fun v17 N17=>K1 (zO rfl N17 (Cell3.of j rfl) fun _ w9 hU hN => ?_)))));replace ad:=NC.upd hU j _ _ ad rfl;replace E0:=E0.upd hU hgb2;obtain ⟨cs,aD,aE,ab⟩:=hN;refine rm [4] ?_;exact zE (zM (⟨D,_,rfl,ad,fun w2 I=>⟨zq rfl rfl rfl zAI (aD.oth I) aE,E0.oth I oM,ab.le I.le⟩⟩))
end Go.Proofs.YtjiendlfobjanaaGreatDoor
namespace Go.Proofs.YtjiendlfobjanaaGreatDoor
open Go Go.RowKit Go.Proofs Tryz
variable {A A':List Rat} {af:Array Edge} {b c i sz0 sz2:Nat} {g:Option (Nat×Bool)} {pos:String} {r:Option Nat} {ty:TypeId} {v:Value} {w w' w0:World} {σ:Operand->Value}
def AccB (b c:Nat) (w:World) (A:List Rat):Prop:=∃ cs,Blk w b 37 cs/\cs.length=3*c/\∀ i,i<A.length->IsNum w (.agg ((cs.drop (3*i)).take 3).toArray) (A.getD i 0)
theorem AccP.cases {sz:Nat} (h:AccP sz w v A) :
 (∃ b c,v = .slice (some ⟨b,0,none⟩) A.length c/\A.length+1<=c/\sz<=b/\AccB b c w A)\/(∃ p c,v = .slice p A.length c/\c<A.length+1):=by
 obtain ⟨p,c,e,I,D⟩:=h;by_cases F:A.length+1<=c
 . rcases D with ⟨j,B,C⟩ | ⟨b,cs,j,B,C,G,H⟩
   . omega
   . exact .inl ⟨b,c,by rw [e,j],F,B,cs,C,G,H⟩
 . exact .inr ⟨p,c,e,oM⟩
theorem AccB.acc {sz:Nat} (h:AccB b c w A) (e:sz<=b) (j:A.length<=c):AccP sz w (.slice (some ⟨b,0,none⟩) A.length c) A:=by
 obtain ⟨cs,B,C,D⟩:=h;exact ⟨_,c,rfl,j,.inr ⟨b,cs,rfl,e,B,C,D⟩⟩
theorem accStOk (D:AccB b c w0 A) :
 (⟨i,b,fun w=>AccB b c w A,fun w=>AccB b c w A'⟩:StoreSpec).blk<w0.heap.size/\(⟨i,b,fun w=>AccB b c w A,fun w=>AccB b c w A'⟩:StoreSpec).pre w0/\∀ w w',ExtS [b] w0 w->ExtS [b] w w'->w'.heap[(⟨i,b,fun w=>AccB b c w A,fun w=>AccB b c w A'⟩:StoreSpec).blk]? = w.heap[(⟨i,b,fun w=>AccB b c w A,fun w=>AccB b c w A'⟩:StoreSpec).blk]? ->
  ((⟨i,b,fun w=>AccB b c w A,fun w=>AccB b c w A'⟩:StoreSpec).pre w->(⟨i,b,fun w=>AccB b c w A,fun w=>AccB b c w A'⟩:StoreSpec).pre w')/\((⟨i,b,fun w=>AccB b c w A,fun w=>AccB b c w A'⟩:StoreSpec).post w->(⟨i,b,fun w=>AccB b c w A,fun w=>AccB b c w A'⟩:StoreSpec).post w'):=by
 have e:∀ (w w':World) (L:List Rat),ExtS [b] w w'->w'.heap[b]? = w.heap[b]?->AccB b c w L->AccB b c w' L:=fun w w' L j he h=>by
  obtain ⟨cs,B,F,G⟩:=h;exact ⟨cs,by show w'.heap[b]? = _;rw [he];exact B,F,fun i H=>(G i H).extS j (noW1 B dE)⟩
 have C:b<w0.heap.size:=by obtain ⟨cs,B,_⟩:=D;exact B.lt
 exact ⟨C,D,fun w w' _ j he=>⟨e w w' A j he,e w w' A' j he⟩⟩
theorem AccB.now (h:AccB b c w A):NoW [b] w:=by obtain ⟨cs,e,_⟩:=h;exact noW1 e dE
def OneR (sz:Nat) (q:Rat) (v:Value) (w:World):Prop:=∃ b e c2 h,v = .slice (some ⟨b,0,none⟩) 1 1/\sz<=b/\Blk w b 37 [e,c2,h]/\IsNum w (.agg #[e,c2,h]) q
theorem OneR.ext {sz:Nat} {q:Rat} (h:OneR sz q v w) (e:Ext w w'):OneR sz q v w':=by
 obtain ⟨b,j,c2,B,C,D,F,G⟩:=h;exact ⟨b,j,c2,B,C,D,F.ext e,G.ext e⟩
theorem OneR.extS {sz:Nat} {q:Rat} (h:OneR sz q v w) (e:ExtS [b] w w') (J:b<sz) (j:NoW [b] w):OneR sz q v w':=by
 obtain ⟨B,C,c2,D,F,G,H,I⟩:=h;exact ⟨B,C,c2,D,F,G,H.extS e (by simp;omega),I.extS e j⟩
section laws
variable {d:Option Tmp}
theorem runs_one {sz:Nat} {y:Operand} {q:Rat} (h:IsNum w (σ y) q) (D:sz<=w.heap.size):Runs prog r ⟨d,.buildSlice 25 1 #[(0,y)],ty,pos,af,g⟩ σ w (fun v w'=>Ext w w'/\OneR sz q v w'):=by
 have e:=h;obtain ⟨n,B,he,F,G⟩:=h;rw [he] at e;refine zi (cs:=[.bool (decide (q<0)),n,B]) zAs info37' dE dE ?_ fun b w' hb j C hs'=>⟨j,b,_,_,_,rfl,oM,C,e.ext j⟩;show Instr.fill _ _ [(0,σ y)]=_;rw [he]
 kernel_rfl
theorem runs_appE_in {x y:Operand} {sz:Nat} {q:Rat} (F:σ x = .slice (some ⟨b,0,none⟩) A.length c) (G:A.length+1<=c) (H:AccB b c w A) (I:OneR sz q (σ y) w) :
 Runs prog r ⟨d,.call { callee := .builtin .append,args := #[x,y],argTypes := #[25,25] },ty,pos,af,g⟩ σ w (fun v w'=>ExtS [b] w w'/\AccB b c w' (A++[q])/\v = .slice (some ⟨b,0,none⟩) (A++[q]).length c):=by
 obtain ⟨cs,j,J,M⟩:=H;obtain ⟨b2,O,c2,Q,U,_,V,C⟩:=I;have hok:[O,c2,Q].all zDT=true:=by
  obtain ⟨n,dd,he,X,Y⟩:=C;obtain ⟨p1,aa,k1,rfl,-⟩:=X;obtain ⟨p2,ab,k2,rfl,-⟩:=Y;cases he;rfl
 refine zAz (n:=3) zAs zAs zFT F U j (Cells.blk V) rfl G oM hok fun w' B D=>⟨B.toS sM,?_,sM⟩;rw [dW,show A.length*3=3*A.length from by omega] at D;refine ⟨_,D,by rw [zAu];exact J,fun i Z => ?_⟩;by_cases hi':i<A.length
 . rw [zBb oM,ct oM,zEV hi'];exact (M i hi').upd B j dE
 . have:i=A.length:=by simp at Z;omega
   subst this;rw [zBb oM,cD rfl,zEW];exact C.upd B j dE
theorem runs_appE_grow {x y:Operand} {p:Option Addr} {sz:Nat} {q:Rat} (J:σ x = .slice p A.length c) (M:AccP sz0 w (.slice p A.length c) A) (hc:c<A.length+1) (O:OneR sz2 q (σ y) w) (hl:A.length<4096) (Q:sz<=w.heap.size) :
 Runs prog r ⟨d,.call { callee := .builtin .append,args := #[x,y],argTypes := #[25,25] },ty,pos,af,g⟩ σ w (fun v w'=>Ext w w'/\AccP sz w' v (A++[q])):=by
 obtain ⟨b2,c1,c2,c3,h,_,C,U⟩:=O;obtain ⟨p',D,V,h2,X⟩:=M;cases V;have hnew:=zAc (A.length+1) c;have hold:∃ old,Cells w p 37 old/\old.length=A.length*3/\∀ i,i<A.length->IsNum w (.agg ((old.drop (3*i)).take 3).toArray) (A.getD i 0):=by
  rcases X with ⟨h,C,H⟩ | ⟨b,cs,h,C,H,e4,Y⟩
  . subst h;exact ⟨[],.inl rfl,rfl,fun i j=>by simp at j⟩
  . refine ⟨cs.take (A.length*3),.inr ⟨b,0,cs,h,H,sM⟩,by simp;omega,fun i j => ?_⟩;have:=Y i j;rwa [show ((cs.take (A.length*3)).drop (3*i)).take 3=(cs.drop (3*i)).take 3 from by
     rw [gy,gM,dT oM]]
 obtain ⟨old,Z,I,o3⟩:=hold;refine zAW zAs zAs zFT rfl dE J h Z I (Cells.blk C) rfl oM oM fun w' rest D g1 F hB g2 _=>⟨F,?_⟩;have G:rest.length=(D-(A.length+1))*3:=by rw [g2];simp [Builtin.zeroCells,Value.cells]
 refine ⟨_,D,sM,by simpa using g1,.inr ⟨w.heap.size,_,rfl,Q,hB,by simp [I,G];omega,fun i j => ?_⟩⟩;by_cases hi':i<A.length
 . rw [zEV hi',dU,zDK oM];exact (o3 i hi').ext F
 . have:i=A.length:=by simp at j;omega
   subst this;rw [zEW,dU,fA oM,eJ oM];simpa using U.ext F
end laws
end Go.Proofs.YtjiendlfobjanaaGreatDoor
namespace Go.Proofs.YtjiendlfobjanaaGreatDoor
open Go Go.RowKit Go.Proofs Tryz
set_option maxRecDepth 10000
set_option maxHeartbeats 2000000
attribute [local irreducible] Runs WPE CallK Ret
variable {v:Value} {w:World}
theorem zDr {p s:List Rat} (hp:IsPoly w v p) (h:zCN p=some s):Ret prog 256 #[v] w (fun r w'=>IsOwn w.heap.size w' r s):=by
 obtain ⟨pp,pc,rfl,av,ak,aw⟩:=hp;obtain ⟨L,hL,al⟩:=map_some h;have E0:Ext w w:=Ext.refl w;refine J0 25 func256 rfl (rj (ag (rM 1 ?_)));refine rj (ag (rM 9 ?_));refine zA (rJ (K1 (zG zAC rfl (mv (rM 456 ?_)))));refine zF (zX (X:=Nat) (fun i ρ w'=>∃ v3 A,Keep ρ [(3,v3),(6,.slice pp p.length pc),(7,.int .i64 (p.length:Nat)),(8,.int .i64 (i:Nat))]/\i<=p.length/\Ext w w'/\AccP w.heap.size w' v3 A/\A.length<=i/\∃ B,zFN (p.drop i) i=some B/\A++B=L) (fun i=>p.length-i) 0 ⟨_,[],(kp rfl),di _,E0,AccP.nil,cX _,L,hL,rfl⟩ ?_);rintro i ρ1 w1 ⟨v3,A,hk,hil,E0,H,hAl,⟨B,C,e⟩⟩;refine wpe_k _ hk ?_;refine rj (K8 rfl (rM 968 ?_));refine zA ?_;refine K0 rfl ?_ ?_<;>intro hc
 . have O:i<p.length:=t_lt hc;have hq1:=ak.ext E0;rw [zFP O] at C;unfold zFN at C;refine sk (zA (zF (rJ (K1 (runs_pindex (l:=p) hq1 rfl rfl O (K1 (runs_pload hq1 O rfl fun v23 Q => ?_)))))));refine K1 (zR zAt fun U w7 hb hE hBc hs => ?_);have hgc:w.heap.size<=U:=by rw [hb];exact E0.size
   have aa:=H.new (c:=U) oM;obtain ⟨E0,Q,H⟩:=V2 hE E0 Q.ext H.ext;refine ag (K1 (zO rfl Q (Cell3.of hBc rfl) fun _ w9 hU hNA => ?_));replace E0:=E0.upd hU hgc;replace H:=H.upd hU hBc aa;refine rM 504 ?_;refine rJ (K8 rfl (rM 16888 ?_));refine K0 rfl ?_ ?_<;>intro hc
   . have I:i≠0:=by have:=dh hc;omega
     rw [ct I] at C;obtain ⟨m,hm,C⟩:=bind_some C;obtain ⟨ab,rfl⟩:=zEB hm;obtain ⟨B2,ad,C⟩:=bind_some C;cases C;rcases H.cases with ⟨M,ac,J,V,ae,Y⟩ | ⟨ay,ac,J,V⟩
     . skip
       have D:NoW [M] _:=Y.now;have hlt9:M<w9.heap.size:=by obtain ⟨_,am,_⟩:=Y;exact am.lt
       have ah:U≠M:=eH (aa M ac J);subst J;refine zAy false [⟨6,M,fun w=>AccB M ac w A,fun w=>AccB M ac w (A++[p.getD i 0*(i:Rat)])⟩] [[6],[10],[8],[1],[5,1],[1],[11,1],[1]] mixed kR sM (all1 (accStOk Y)) fun K hK=>bM aL (bn D (fun hE hk=>zW hk.1 (hNA.extS hE (nin1 ah) D) fun _=>eX) (bM aL (bN (fun v w'=>IsNum w' v (i:Rat)) D (fun hE hk=>zJ yB (CallK.eq1 hk.1 (CallK.of_ret (zDC (n:=((i:Nat):Int)) oM oM) fun v w2 hX Z=>⟨hX,Z⟩)) rfl) (bl D (fun hE hk=>Mul_ok hk.1 hk.2.1 ab) (dbn (OneR w9.heap.size (p.getD i 0*(i:Rat))) rfl (fun _ _ _ h1 hx h=>h.extS hx hlt9 (D.ext h1)) (fun σ wx hE _ hk=>runs_one hk.1 hE.size) (des _ (fun v _=>v = .slice (some ⟨M,0,none⟩) (A++[p.getD i 0*(i:Rat)]).length ac) rfl (fun _ _ _ _ _ h=>h) (fun σ wx hE hpre hk=>runs_appE_in hk.1 V hpre hk.2.1) (bv (fun hE hk=>zr (eX hk.1)) (zAJ (hK _ fun wq hS hP => ?_)))))))));rintro _ rfl v16 N16 _ rfl v18 N18 v19 N19 v20 N20 _ rfl _ rfl;refine zY ?_;obtain ⟨ai,-⟩:=hP;replace E0:=E0.updS hS ae;have F:=ai.acc ae (show (A++[p.getD i 0*(i:Rat)]).length<=ac by simp;omega);have j:(A++[p.getD i 0*(i:Rat)]).length<=i+1:=by simp;omega
       have G:∃ B,zFN (p.drop (i+1)) (i+1)=some B/\(A++[p.getD i 0*(i:Rat)])++B=L:=⟨B2,ad,by rw [dU];exact e⟩;refine zN (zK (K5 [3,6,7,8] ?_));exact K6 (K8 rfl (mv (rl (zL (⟨rfl,i+1,⟨_,_,kw,oM,E0,F,j,G⟩,oM⟩)))))
     . skip
       have ao:=E0.size;subst J;refine zAe [[6],[10],[8],[1],[5,1],[1],[11,1],[1]] mixed kR fun K hK=>dM aL (dc (fun hE hk=>zW hk.1 (hNA.ext hE) fun _=>eX) (dM aL (dC (fun v w'=>IsNum w' v (i:Rat)) (fun hE hk=>zJ yB (CallK.eq1 hk.1 (CallK.of_ret (zDC (n:=((i:Nat):Int)) oM oM) fun v w2 hX Z=>⟨hX,Z⟩)) rfl) (dl (fun hE hk=>Mul_ok hk.1 hk.2.1 ab) (dC (OneR w9.heap.size (p.getD i 0*(i:Rat))) (fun hE hk=>runs_one hk.1 hE.size) (dC (fun v w'=>AccP w.heap.size w' v (A++[p.getD i 0*(i:Rat)])) (fun hE hk=>runs_appE_grow hk.1 (H.ext hE) V hk.2.1 oM (E0.trans hE).size) (dC (fun v w'=>AccP w.heap.size w' v (A++[p.getD i 0*(i:Rat)])) (fun hE hk=>zr (eX hk.1)) (zAJ (hK _ fun wq hE => ?_)))))))));rintro _ rfl v16 N16 _ rfl v18 N18 v19 N19 v20 N20 v21 N21 v3 N3;refine zY ?_;replace E0:=E0.trans hE;refine zN (zK (K5 [3,6,7,8] ?_));have F:=N3;have j:(A++[p.getD i 0*(i:Rat)]).length<=i+1:=by simp;omega
       have G:∃ B,zFN (p.drop (i+1)) (i+1)=some B/\(A++[p.getD i 0*(i:Rat)])++B=L:=⟨B2,ad,by rw [dU];exact e⟩;exact K6 (K8 rfl (mv (rl (zL (⟨rfl,i+1,⟨_,_,kw,oM,E0,F,j,G⟩,oM⟩)))))
   . have I:i=0:=by have:=de hc;omega
     rw [cD I] at C;have F:=H;have j:A.length<=i+1:=oM
     have G:∃ B,zFN (p.drop (i+1)) (i+1)=some B/\A++B=L:=⟨B,by rw [I] at C ⊢;exact C,e⟩;exact zw (zN (zK (K6 (K8 rfl (mv (rl (zL (⟨rfl,i+1,⟨_,_,kw,oM,E0,F,j,G⟩,oM⟩))))))))
 . have ax:=f_lt hc;obtain rfl:i=p.length:=by omega
   rw [eO] at C;cases C;rw [fu] at e;subst e;refine zT (zt (zf (zI (zK (rj (mv ?_))))));have hsz:=E0.size;refine K1 (j0 E0 yB (zBS (H.own oM).poly) fun v9 w9 E0 Z => ?_);rw [al] at Z;refine ag (rM 452 ?_);exact zE (en rfl E0 (Z.sz hsz))
variable {bx cap i:Nat} {l:List Rat} {u:Value} {x y:Rat}
theorem rsign_bound (x:Rat) : -1<=rsign x/\rsign x<=1:=by
 unfold rsign;rcases gO x.num 0 with a | a | a
 . rw [eu a];decide
 . rw [a];decide
 . rw [eI a];decide
theorem PRd.one {p:Option Addr} (h:PRd w p l) (e:i<l.length) (G:l.length<=cap):IsPoly w (.slice (if cap=i then p else p.map (fun a=>a.add (i*3))) 1 (cap-i)) [l.getD i 0]:=by
 rcases h with h | ⟨b,o,cs,B,C,H,D⟩
 . subst h;simp at e
 . refine ⟨_,_,rfl,by simp;omega,.inr ⟨b,o+3*i,cs,?_,C,by simp;omega,fun j F => ?_⟩,sM⟩
   . rw [ct oM,B];simp [zAm,dm]
   . have:j=0:=by simp at F;omega
     subst this;have:=D i e;simpa using this
theorem zLK {p s:List Rat} (e:IsPoly w v p) (h:zRc p=some s):Ret prog 312 #[v] w (fun r w'=>IsOwn w.heap.size w' r s):=by
 obtain ⟨d,j,h⟩:=bind_some h;obtain ⟨g,B,C⟩:=bind_some h;have E0:Ext w w:=Ext.refl w;refine J0 9 func312 rfl (rj (ag (rM 1 ?_)));refine rJ (mv (mv (K1 (j1 E0 e.ext yB (zDr e j) fun v6 w2 E0 e N6=>K1 (j1 E0 e.ext yB (zGI e N6.poly B) fun v7 w2 E0 e N7 => ?_)))));have hsz:=E0.size;refine K1 (j0 E0 yB (zFn e N7.poly C) fun v8 w2 E0 N8=>ag (rM 4 ?_));exact zE (en rfl E0 (N8.sz hsz))
theorem ends1_ok {p:List Rat} {B:Nat} {m:Bool} (C:IsPoly w v p) (F:p≠[]) (e:Blk w B 4 [.bool m]):Ret prog 258 #[v,.pointer (some ⟨B,0,none⟩)] w (fun u _=>u = .int .i64 (endS m p)):=by
 have j:=C;obtain ⟨pp,J,rfl,G,H,I⟩:=j;refine J0 18 func258 rfl (rj (ag (rM 3 ?_)));refine rJ (K1 (j1 E0 e.ext yB (zPN C F) fun v6 w2 E0 e N6=>K1 (zJ yB (CallK.of_ret (Sign_ok N6) fun v7 w3 hE hr => ?_) rfl)));subst hr;obtain ⟨E0,e⟩:=V1 hE E0 e.ext;refine ag (rM 19 ?_);refine zA (zA ?_);rcases m with _ | _
 . skip
   refine K6 (K1 (zD zCo rfl e rfl (mv (K3 (K3 (K3 (K3 (pc0 rfl (rs [4,14] ?_)))))))));refine wcf rfl (sk (rJ (ag (rM 8 ?_))));refine zE (zM ?_);exact ⟨rfl,_,zZ rfl rfl,E0,by rw [endS,ct sM];rfl⟩
 . skip
   refine K6 (K1 (zD zCo rfl e rfl (mv (K7 (K2 (zG zAC rfl (K2 (zAE (b:=2) (p.length%2) rfl rfl dE rfl (K2 (zC rfl rfl rfl (pc0 rfl (rs [4,14] ?_))))))))))));refine K0 rfl ?_ ?_<;>intro D
   . have h:p.length%2=0:=by have:=gC D;omega
     refine rI (K1 (zEQ rfl ?_));rw [show IntKind.i64.wrap (0-rsign (top p)) = - rsign (top p) from by have:=rsign_bound (top p);rw [zm oM oM];omega];refine ag (rs [4] ?_);refine rJ (ag (rM 8 ?_));refine zE (zM ?_);exact ⟨rfl,_,zZ rfl rfl,E0,by rw [endS];simp [h,look1]⟩
   . have h:¬ p.length%2=0:=by have:=dk.1 D;omega
     refine sk (rJ (ag (rM 8 ?_)));refine zE (zM ?_);exact ⟨rfl,_,zZ rfl rfl,E0,by rw [endS];simp [h,look1]⟩
theorem zIg {m:Bool}:Ret prog 173 #[.bool m] w (fun r w'=>∃ h,r = .func (.func 258) #[] #[.pointer (some ⟨h,0,none⟩)]/\Blk w' h 4 [.bool m]):=by
 refine J0 4 func173 rfl (rj ?_);refine K1 (zn (Z0 E0 fun b1 w1 E0 j e=>ag (rM 2 ?_)));refine rj (K1 (zCj (ag (rM 4 ?_))));exact zE (en rfl E0 ⟨b1,rfl,e⟩)
theorem at1_ok {p:List Rat} (e:IsPoly w v p) (j:NumAt bx x w) (h:peval p x=some y):Ret prog 350 #[v,.pointer (some ⟨bx,0,none⟩)] w (fun u _=>u = .int .i64 (rsign y)):=by
 refine J0 8 func350 rfl (rj (ag (rM 3 ?_)));refine rJ (K1 (zW rfl j fun C B=>K1 (j0 E0 yB (zCA e B h) fun v6 w2 E0 N6=>K1 (zJ yB (CallK.of_ret (Sign_ok N6) fun v7 w3 hE hr => ?_) rfl))));subst hr;replace E0:=E0.trans hE;refine ag (rM 8 ?_);exact zE (en rfl E0 rfl)
theorem at_ok (e:IsNum w v x):Ret prog 315 #[v] w (fun r w'=>∃ bx,r = .func (.func 350) #[] #[.pointer (some ⟨bx,0,none⟩)]/\NumAt bx x w'):=by
 have h:=e;obtain ⟨D,F,rfl,B,C⟩:=h;refine J0 4 func315 rfl (rj ?_);refine K1 (zn (Z1 E0 e.ext fun b1 w1 E0 e hgb1 j=>ag (rM 2 ?_)));refine rj (K1 (zCj (ag (rM 4 ?_))));exact zE (zM (⟨rfl,_,zZ rfl rfl,E0,b1,rfl,⟨_,j,rfl,e⟩⟩))
theorem zEw {p m:List Rat} (D:IsPoly w v p) (h:zCU p=some m):Ret prog 313 #[v] w (fun r w'=>IsOwn w.heap.size w' r m):=by
 have E0:Ext w w:=Ext.refl w;refine J0 16 func313 rfl (rj (ag (rM 1 ?_)));refine zA (rJ (K1 (zJ yB (CallK.of_ret (zBS D) fun v4 w4 hE j => ?_) rfl)));have hsz:=E0.size;replace E0:=E0.trans hE;have hT0:=j;obtain ⟨M,O,rfl,H,I,J,_⟩:=hT0;refine ag (rM 1 ?_);refine rJ (K1 (zG zAC rfl (K8 rfl (rM 129 ?_))));refine K0 rfl ?_ ?_<;>intro hc
 . have B:trim p≠[]:=fun e=>by rw [e] at hc;cases hc
   rw [zCU,ct B] at h;obtain ⟨c,F,G⟩:=bind_some h;obtain ⟨C,rfl⟩:=zFb F;have j:=j.poly;refine rI (K1 (j1 E0 j.ext yB (zDC (n:=1) dE dE) fun v9 w9 E0 j N9=>mv (K1 (j2 E0 j.ext N9.ext yB (zPN j B) fun v11 w11 E0 j N9 N11=>K1 (j2 E0 j.ext N9.ext yB (zNj N11) fun v12 w11 E0 j N9 N12=>K1 (j1 E0 j.ext yB (zNN N9 N12 C) fun v13 w12 E0 j N13=>K1 (zJ yB (CallK.of_ret (zDL j N13 G) fun v14 w13 hE hr => ?_) rfl)))))));have hsz2:=E0.size;replace E0:=E0.trans hE;clear j;have j:=hr.sz hsz2;refine ag (rS 1 ?_);refine rJ (ag (rM 4 ?_));exact zE (en rfl E0 j)
 . have B:trim p=[]:=ef (by have:=de hc;omega);rw [zCU,cD B] at h;obtain rfl:m=trim p:=by rw [B];exact (dj h).symm
   have j:=j.sz hsz;refine sk (rJ (ag (rM 4 ?_)));exact zE (en rfl E0 j)
theorem zPm:Ret prog 167 #[] w (fun r w'=>IsOwn w.heap.size w' r [0,1]):=by
 refine J0 4 func167 rfl (rj (ag (rm [] ?_)));refine rj (K1 (j0 E0 yB (zDC (n:=0) dE dE) fun O w2 E0 h=>K1 (j1 E0 h.ext yB (zDC (n:=1) dE dE) fun v2 w2 E0 h N2 => ?_)));obtain ⟨I,d1,rfl,B,C⟩:=h;obtain ⟨J,d2,rfl,D,F⟩:=N2;refine K1 (zi (cs:=[.bool (decide (((0:Int):Rat)<0)),I,d1,.bool (decide (((1:Int):Rat)<0)),J,d2]) zAs info37' dE dE kR fun j w10 hb e G hs => ?_);have H:w.heap.size<=j:=by rw [hb];exact E0.size
 replace E0:=E0.trans e;have M1:IsNum _ (.agg #[.bool (decide (((0:Int):Rat)<0)),I,d1]) ((0:Int):Rat):=⟨_,_,rfl,B.ext e,C.ext e⟩;have M2:IsNum _ (.agg #[.bool (decide (((1:Int):Rat)<0)),J,d2]) ((1:Int):Rat):=⟨_,_,rfl,D.ext e,F.ext e⟩;refine ag (rM 1 ?_);refine zE (zM (⟨rfl,_,zZ rfl rfl,E0,_,2,rfl,cX _,.inr ⟨j,0,_,rfl,G,sM,fun i M => ?_⟩,sM,fun _=>⟨j,rfl,H⟩⟩))
 match i,M with
 | 0,_=>exact M1
 | 1,_=>exact M2
theorem along_ok {V Y:Value} {p x y R I:List Rat} (hp:IsPoly w u p) (Z:IsPoly w V x) (hy:IsPoly w Y y) (h:along p x y=some (R,I)):Ret prog 166 #[u,V,Y] w (fun r w'=>∃ a b,r = .tuple #[a,b]/\IsPoly w' a R/\IsPoly w' b I):=by
 obtain ⟨pp,pc,rfl,ap,ad,aq⟩:=hp;unfold along at h;refine J0 38 func166 rfl (rj (ag (ag (rM 199 ?_))));refine zA (rJ (K1 (zG zAC rfl (K1 (zC (v := .int .i64 (((p.length:Nat):Int)-1)) rfl rfl (sI (zm oM oM)) (ag (rM 455 ?_)))))));refine zF ?_;refine zX (X:=Nat) (fun k ρ w'=>∃ Q U re im,Keep ρ [(0,.slice pp p.length pc),(1,V),(2,Y),(6,Q),(7,U),(8,.int .i64 (((k:Nat):Int)-1))]/\k<=p.length/\Ext w w'/\IsPoly w' Q re/\IsPoly w' U im/\zJF x y (p.take k).reverse re im=some (R,I)) (fun k=>k) p.length ⟨_,_,[],[],(kp rfl),cX _,E0,IsPoly.nil,IsPoly.nil,by rw [ej];exact h⟩ ?_;rintro k ρ1 w1 ⟨Q,U,re,im,B,ar,E0,h6,h7,D⟩;have hx1:=Z.ext E0;have hy1:=hy.ext E0;refine wpe_k _ B ?_;refine zA (zA ?_);rcases k with _ | j
 . simp only [List.take_zero,List.reverse_nil,zJF] at D;cases D;refine rI (K8 rfl (rS 8647 ?_));refine wcf vF (zT (zt (zf (zI (zK (rJ (mv (ag (ag (rM 449 ?_))))))))));exact zE (zM ⟨rfl,_,zv rfl rfl rfl,E0,_,_,rfl,h6,h7⟩)
 . have ae:((j+1:Nat):Int)-1=(j:Int):=by omega
   have ah:IntKind.i64.wrap ((j:Int)-1)=(j:Int)-1:=zm oM oM;rw [ae];have J:=ad.ext E0;rw [zFx oM,List.reverse_append] at D;unfold zJF at D;obtain ⟨a,ha,D⟩:=bind_some D;obtain ⟨b,hb,D⟩:=bind_some D;obtain ⟨s,hs,D⟩:=bind_some D;obtain ⟨H,M,D⟩:=bind_some D;obtain ⟨e,he,D⟩:=bind_some D;obtain ⟨g,hg,D⟩:=bind_some D;obtain ⟨aa,O,D⟩:=bind_some D;refine rI (K8 rfl (rS 8647 ?_));refine wct vT (sk (zA (zF (zAe [[12],[2],[3,1],[14],[4],[3,1],[7,1],[0],[16],[16],[1],[7,5,1],[11,1],[12],[4],[3,1],[14],[2],[3,1],[7,1],[15],[3]] mixed kR fun K hK=>dM aL (dM aL (dC (fun v w'=>IsPoly w' v (a)) (fun C B=>zJ yB (CallK.of_ret (zDi (IsPoly.of_eq B.1 (h6.ext C)) (IsPoly.of_eq B.2.1 (hx1.ext C)) ha) fun v w2 F G=>⟨F,G.poly⟩) rfl) (dM aL (dM aL (dC (fun v w'=>IsPoly w' v (b)) (fun C B=>zJ yB (CallK.of_ret (zDi (IsPoly.of_eq B.1 (h7.ext C)) (IsPoly.of_eq B.2.1 (hy1.ext C)) hb) fun v w2 F G=>⟨F,G.poly⟩) rfl) (dC (fun v w'=>IsPoly w' v (s)) (fun C B=>zJ yB (CallK.of_ret (zHP B.1 B.2.1 hs) fun v w2 F G=>⟨F,G.poly⟩) rfl) (dM aL (dM aL ?_))))))))))));refine dM aL (du (fun C B=>zg (b:=1) (j+1) B.1 rfl rfl oM eR) ?_)
   refine dcp (fun v w'=>IsPoly w' v ([p.getD j 0])) (fun _ _ _ _ Z h=>h.ext Z.toExt) (fun σ wx C B=>zHI zAC B.1 B.2.1 B.2.2.1 oM oM oM (by
    rw [show ((j+1:Nat):Int).toNat-((j:Nat):Int).toNat=1 from by omega,show ((j:Nat):Int).toNat=j from by omega];exact ⟨Ext.refl _,(J.ext C).one oM oM⟩)) ?_
   refine dC (fun v w'=>IsPoly w' v (H)) (fun C B=>zJ yB (CallK.of_ret (zHO B.1 B.2.1 M) fun v w2 F G=>⟨F,G.poly⟩) rfl) (dM aL (dM aL (dC (fun v w'=>IsPoly w' v (e)) (fun C B=>zJ yB (CallK.of_ret (zDi (IsPoly.of_eq B.1 (h6.ext C)) (IsPoly.of_eq B.2.1 (hy1.ext C)) he) fun v w2 F G=>⟨F,G.poly⟩) rfl) (dM aL (dM aL (dC (fun v w'=>IsPoly w' v (g)) (fun C B=>zJ yB (CallK.of_ret (zDi (IsPoly.of_eq B.1 (h7.ext C)) (IsPoly.of_eq B.2.1 (hx1.ext C)) hg) fun v w2 F G=>⟨F,G.poly⟩) rfl) (dC (fun v w'=>IsPoly w' v (aa)) (fun C B=>zJ yB (CallK.of_ret (zHO B.1 B.2.1 O) fun v w2 F G=>⟨F,G.poly⟩) rfl) (dC (fun v w'=>IsPoly w' v (H)) (fun C B=>zr (eX B.1)) (dC (fun v w'=>IsPoly w' v (aa)) (fun C B=>zr (eX B.1)) (zAJ (hK _ fun wq C => ?_)))))))))));rintro _ rfl _ rfl v18 N18 _ rfl _ rfl v21 N21 v22 N22 _ rfl _ rfl _ rfl _ rfl v27 N27 v28 N28 _ rfl _ rfl v31 N31 _ rfl _ rfl v34 N34 v35 N35 Q N6 U N7;refine zY ?_;replace E0:=E0.trans C;refine zN (zK (K5 [0,1,2,6,7,8] ?_));exact rI (K8 rfl (ag (rl (zL (⟨rfl,j,⟨_,_,H,aa,⟨rfl,rfl,rfl,rfl,rfl,rfl,rfl,rfl,rfl,rfl,rfl,cW (Value.int .i64) ah,trivial⟩,oM,E0,N6,N7,D⟩,oM⟩)))))
end Go.Proofs.YtjiendlfobjanaaGreatDoor
namespace Go.Proofs.YtjiendlfobjanaaGreatDoor
open Go Go.RowKit Go.Proofs Tryz
variable {K:Value->World->Prop} {af:Array Edge} {cap i ix:Nat} {g:Option (Nat×Bool)} {pos:String} {r:Option Nat} {t' ty:TypeId} {v:Value} {w w':World} {σ:Operand->Value}
def CRd (w:World) (p:Option Addr) (c:List Poly):Prop :=
 c=[]\/∃ b o cs,p=some ⟨b,o,none⟩/\Blk w b 25 cs/\o+c.length<=cs.length/\∀ i,i<c.length->∃ v,cs[o+i]? = some v/\IsPoly w v (c.getD i [])
def zBd (w:World) (v:Value) (c:List Poly):Prop:=∃ p cap,v = .slice p c.length cap/\c.length<=cap/\CRd w p c/\c.length<=8192
theorem CRd.ext {p:Option Addr} {c:List Poly} (h:CRd w p c) (e:Ext w w'):CRd w' p c:=by
 rcases h with h | ⟨b,o,cs,j,B,C,D⟩
 . exact .inl h
 . exact .inr ⟨b,o,cs,j,B.ext e,C,fun i F=>let ⟨v,G,H⟩:=D i F;⟨v,G,H.ext e⟩⟩
theorem zBd.ext {c:List Poly} (h:zBd w v c) (e:Ext w w'):zBd w' v c:=by
 obtain ⟨p,k,j,B,C,D⟩:=h;exact ⟨p,k,j,B,C.ext e,D⟩
theorem CRd.at {p:Option Addr} {c:List Poly} (h:CRd w p c) (e:i<c.length):∃ b o cs v,p=some ⟨b,o,none⟩/\Blk w b 25 cs/\cs[o+i]? = some v/\IsPoly w v (c.getD i []):=by
 rcases h with h | ⟨b,o,cs,j,B,G,C⟩
 . subst h;simp at e
 . obtain ⟨v,D,F⟩:=C i e;exact ⟨b,o,cs,v,j,B,D,F⟩
theorem zJv:zBH prog 240 25 1:=by unfold zBH;exact ⟨kR,kR⟩
theorem zFy:prog.underlying 240=some (.slice 25):=kR
theorem zRF:Plain prog 240:=by unfold Plain;exact ⟨kR,kR⟩
theorem zTr:(prog.info? 25).map (fun i=>(i.zero,i.size,i.bytes))=some (some (.slice none 0 0),1,24):=kR
theorem info25':(prog.info? 25).map (fun i=>(i.zero,i.size))=some (some (.slice none 0 0),1):=kR
theorem size321:(prog.info? 321).map (·.size)=some 2:=kR
theorem zKB:Aggr prog 321 2:=by unfold Aggr;exact ⟨kR,kR⟩
theorem zero321:(prog.info? 321).bind (·.zero)=some (.agg #[.int .i64 0,.int .i64 0]):=kR
theorem under3':prog.underlying 3=some (.int .i64):=kR
theorem under321:prog.underlying 321=some (.array 2 3):=kR
section laws
variable {d:Option Tmp}
theorem zHf {x i:Operand} {p:Option Addr} {c:List Poly} {k:IntKind} (e:CRd w p c) (h:σ x = .slice p c.length cap) (j:σ i = .int k (ix:Int)) (B:ix<c.length) (C:K (.pointer (p.map fun a=>a.add ix)) w):Runs prog r ⟨d,.indexAddr 240 x i,ty,pos,af,g⟩ σ w K:=by
 obtain ⟨b,o,cs,v,D,F,G,H⟩:=e.at B;subst D;refine zH zJv h j oM oM ?_;rw [show o+((ix:Nat):Int).toNat*1=o+ix from by omega];simpa [zAm] using C
theorem zIt {x:Operand} {p:Option Addr} {c:List Poly} (h:CRd w p c) (j:i<c.length) (e:σ x = .pointer (p.map fun a=>a.add i)) (B:∀ v,IsPoly w v (c.getD i [])->K v w):Runs prog r ⟨d,.load 25 x,ty,pos,af,g⟩ σ w K:=by
 obtain ⟨b,o,cs,v,C,D,F,G⟩:=h.at j;rw [C] at e;exact zD (o:=o+i) zBv (by rw [e];simp [zAm]) D F (B v G)
theorem run_equalIn_int3 (m:Nat) (a b:Int) (w:World):(Op.equalIn (m+1) 3 (.int .i64 a) (.int .i64 b)).run prog w = .ok (a==b) w:=by
 unfold Op.equalIn;simp [run_underlying under3']
theorem run_equal321 (a b c e:Int) (w:World):(Op.equal 321 (.agg #[.int .i64 a,.int .i64 b]) (.agg #[.int .i64 c,.int .i64 e])).run prog w = .ok (a==c&&b==e) w:=by
 obtain ⟨B,j⟩:=gq.1 (kR:(prog.info? 3).isSome=true);have h:=run_equalIn_array (P:=prog) w 9999 #[.int .i64 a,.int .i64 b] #[.int .i64 c,.int .i64 e] under321 j;show (Op.equalIn 10000 321 _ _).run prog w=_;rw [h,show prog.cellsOf 3=1 from by kernel_rfl];have hp:∀ (xs:Array Value) (i:Nat) (v:Value),xs[i]? = some v->(part 3 xs i).run prog w = .ok v w:=fun xs i v hv=>by
  simp [part,zAT.isAgg,hv]
 have he:∀ x y:Int,(Op.equalIn 9999 3 (.int .i64 x) (.int .i64 y)).run prog w = .ok (x==y) w:=fun x y=>run_equalIn_int3 9998 x y w;rw [show List.range 2=[0,1] from rfl];have p1:=hp #[.int .i64 a,.int .i64 b] 0 (.int .i64 a) rfl;have p2:=hp #[.int .i64 a,.int .i64 b] 1 (.int .i64 b) rfl;have p3:=hp #[.int .i64 c,.int .i64 e] 0 (.int .i64 c) rfl;have p4:=hp #[.int .i64 c,.int .i64 e] 1 (.int .i64 e) rfl;simp only [Op.eqItems,Sem.run_bind,gU,eG,p1,p2,p3,p4,Result.andThen_ok,he];have e1:=he a c;have e2:=he b e;cases h1:a==c<;>cases h2:b==e<;>rw [h1] at e1<;>rw [h2] at e2<;>simp [p2,p4,e1,e2]
theorem zIN {a b c e:Int} {x y:Operand} (q:Bool) (h:σ x = .agg #[.int .i64 a,.int .i64 b]) (j:σ y = .agg #[.int .i64 c,.int .i64 e]) (B:(a==c&&b==e)=q) (C:K (.bool q) w):Runs prog r ⟨d,.binOp .eql 321 x y t',ty,pos,af,g⟩ σ w K:=by
 refine zy (fun _ e=>by cases e) ?_ C;have hm:prog.eqGuardType prog.depth 321=false:=kR
 simp [execOp,binOp,h,j,run_eqGuard_agg,hm,run_equal321,B]
end laws
end Go.Proofs.YtjiendlfobjanaaGreatDoor
namespace Go.Proofs.YtjiendlfobjanaaGreatDoor
open Go Go.RowKit Go.Proofs Tryz
set_option maxRecDepth 10000
set_option maxHeartbeats 2000000
attribute [local irreducible] Runs WPE CallK Ret
variable {bx i:Nat} {cv u v:Value} {f:FuncId} {w w':World} {x y:Rat}
theorem zIc {l:List Int} (h:i<l.length):l.drop i=l.getD i 0 :: l.drop (i+1):=by
 rw [dZ h];simp [h]
theorem zFq {α β:Type} {f:α->Option β}:∀ {l:List α} {r:List β},mapO f l=some r->r.length=l.length
 | [],r,h=>by cases h;rfl
 | x :: l,r,h=>by
  unfold mapO at h;obtain ⟨y,_,h⟩:=bind_some h;obtain ⟨j,e,h⟩:=bind_some h;cases h;simp [zFq e]
theorem zQv {α β:Type} {f:α->Option β} (a:α) (b:β):∀ {l:List α} {r:List β} {i:Nat},mapO f l=some r->i<l.length->f (l.getD i a)=some (r.getD i b)
 | [],r,i,h,e=>by simp at e
 | x :: l,r,i,h,e=>by
  unfold mapO at h;obtain ⟨y,j,h⟩:=bind_some h;obtain ⟨C,B,h⟩:=bind_some h;cases h;cases i with
  | zero=>simpa using j
  | succ i=>simpa using zQv a b B (by simpa using e)
theorem zQo {k:Value} {c:List Poly} {signs:List Int} (C:zBd w cv c) (M:zBA prog f) (J:signs.length=c.length) (I:∀ i,i<c.length->∀ (w':World) (v:Value),Ext w w'->IsPoly w' v (c.getD i [])->Ret prog f #[v,k] w' (fun u _=>u = .int .i64 (signs.getD i 0))):Ret prog 172 #[cv,.func (.func f) #[] #[k]] w (fun u _=>u = .int .i64 (flipL signs 0 0)):=by
 obtain ⟨O,Q,rfl,Y,U,Z⟩:=C;refine J0 38 func172 rfl (rj (ag (rM 3 ?_)));refine rj (ag (ag (rM 99 ?_)));refine zA (rJ (K1 (zG zJv rfl (mv (rM 14434 ?_)))));refine zF (zX (X:=Nat) (fun i ρ w'=>∃ n h,Keep ρ [(1,.func (.func f) #[] #[k]),(5,.int .i64 n),(6,.int .i64 h),(11,.slice O c.length Q),(12,.int .i64 (c.length:Nat)),(13,.int .i64 (i:Nat))]/\i<=c.length/\Ext w w'/\0<=n/\n<=i/\flipL (signs.drop i) h n=flipL signs 0 0) (fun i=>c.length-i) 0 ⟨0,0,(kp rfl),di _,E0,ia _,ia _,rfl⟩ ?_);rintro i ρ1 w1 ⟨n,h,V,aa,E0,ab,ad,j⟩;refine wpe_k _ V ?_;refine rj (K8 rfl (rM 30818 ?_));refine zA ?_;refine K0 rfl ?_ ?_<;>intro C
 . have G:i<c.length:=t_lt C;have hC1:=U.ext E0;rw [zIc oM,flipL] at j;refine sk (zA (zF (rj (K1 (zHf hC1 rfl rfl G (K1 (zIt hC1 G rfl fun v16 N16=>ag (rM 14690 ?_))))))));refine rJ (mv (K1 (zCi rfl M (CallK.of_ret (I i G _ v16 E0 N16) fun v19 w2 hE hr => ?_))));subst hr;replace E0:=E0.trans hE;refine ag (rM 14946 ?_);refine zA (rJ (K8 rfl (rM 2112098 ?_)));refine K0 rfl ?_ ?_<;>intro C
   . have H:(signs.getD i 0)=0:=gC C;rw [cD H] at j;have B:=j;exact zT (zt (zI (zK (K6 (K8 rfl (mv (rl (zL (⟨rfl,i+1,⟨_,_,kw,oM,E0,oM,oM,B⟩,oM⟩)))))))))
   . have H:(signs.getD i 0)≠0:=dk.1 C;rw [ct H] at j;refine sk (zA (rJ (mv (K1 (zV (cs := #[.int .i64 h,.int .i64 (signs.getD i 0)]) kR ?_)))));refine K1 (zR zero321 (Z0 E0 fun b1 w1 E0 hgb1 hB1=>K1 (zc size321 rfl hB1 rfl (cw rfl) dE rfl fun w2 hU hN => ?_)));replace E0:=E0.upd hU hgb1;clear hB1;have hB1:=hN;refine rM 15970 ?_;refine zA ?_;rcases (show (h=1/\(signs.getD i 0) = -1)\/(¬ (h=1/\(signs.getD i 0) = -1)/\(h = -1/\(signs.getD i 0)=1))\/(¬ (h=1/\(signs.getD i 0) = -1)/\¬ (h = -1/\(signs.getD i 0)=1)) from by omega) with D | ⟨D,F⟩ | ⟨D,F⟩
     . have B:flipL (signs.drop (i+1)) (signs.getD i 0) (n+1)=flipL signs 0 0:=by rw [<- j,cD (Or.inl D)]
       refine K6 (K1 (zh zKB rfl hB1 (cw rfl) (K1 (zV (cs := #[.int .i64 1,.int .i64 (-1)]) kR ?_))));refine K1 (zIN true rfl rfl (by rw [D.1,D.2];rfl) ?_);refine mv (K3 (K3 (K3 (pc0 rfl (rS 8053078626 ?_)))));refine wct rfl (rI (K1 (zC (v := .int .i64 (n+1)) rfl rfl (sI (zm oM oM)) (ag (rS 3758111330 ?_)))));refine rI (ag (rl (zN (zK (K5 [1,5,6,11,12,13,29,30,31] ?_)))));exact K6 (K8 rfl (mv (rl (zL (⟨rfl,i+1,⟨_,_,kw,oM,E0,oM,oM,B⟩,oM⟩)))))
     . have B:flipL (signs.drop (i+1)) (signs.getD i 0) (n+1)=flipL signs 0 0:=by rw [<- j,cD (Or.inr F)]
       refine K6 (K1 (zh zKB rfl hB1 (cw rfl) (K1 (zV (cs := #[.int .i64 1,.int .i64 (-1)]) kR ?_))));refine K1 (zIN false rfl rfl (by rw [F.1];rfl) ?_);refine mv (K2 (zh zKB rfl hB1 (cw rfl) (K2 (zV (cs := #[.int .i64 (-1),.int .i64 1]) kR ?_))));refine K2 (zIN true rfl rfl (by rw [F.1,F.2];rfl) ?_);refine pc0 rfl (rS 8053078626 ?_);refine wct rfl (rI (K1 (zC (v := .int .i64 (n+1)) rfl rfl (sI (zm oM oM)) (ag (rS 3758111330 ?_)))));refine rI (ag (rl (zN (zK (K5 [1,5,6,11,12,13,29,30,31] ?_)))));exact K6 (K8 rfl (mv (rl (zL (⟨rfl,i+1,⟨_,_,kw,oM,E0,oM,oM,B⟩,oM⟩)))))
     . have B:flipL (signs.drop (i+1)) (signs.getD i 0) n=flipL signs 0 0:=by rw [<- j,ct (by rintro (a | a);exact D a;exact F a)]
       refine K6 (K1 (zh zKB rfl hB1 (cw rfl) (K1 (zV (cs := #[.int .i64 1,.int .i64 (-1)]) kR ?_))));refine K1 (zIN false rfl rfl (by rw [ib];intro e;rw [ee,ge,ge] at e;exact D e) ?_);refine mv (K2 (zh zKB rfl hB1 (cw rfl) (K2 (zV (cs := #[.int .i64 (-1),.int .i64 1]) kR ?_))));refine K2 (zIN false rfl rfl (by rw [ib];intro e;rw [ee,ge,ge] at e;exact F e) ?_);refine pc0 rfl (rS 8053078626 ?_);refine wcf rfl (sk (rI (ag (rl (zN (zK (K5 [1,5,6,11,12,13,29,30,31] ?_)))))));exact K6 (K8 rfl (mv (rl (zL (⟨rfl,i+1,⟨_,_,kw,oM,E0,oM,oM,B⟩,oM⟩)))))
 . have ae:=f_lt C;obtain rfl:i=c.length:=by omega
   rw [fp oM,flipL] at j;refine zT (zt (zf (zI (zK (rJ (ag (rM 14450 ?_)))))));exact zE (en rfl E0 (cW (Value.int .i64) j))
theorem zQn {c:List Poly} {s:Int} (j:zBd w cv c) (B:NumAt bx x w) (h:zJJ x c=some s):Ret prog 172 #[cv,.func (.func 350) #[] #[.pointer (some ⟨bx,0,none⟩)]] w (fun u _=>u = .int .i64 s):=by
 obtain ⟨l,e,rfl⟩:=map_some h;refine zQo j yB (zFq e) fun i hi w' v hE hv => ?_;obtain ⟨y,C,D⟩:=map_some (zQv [] 0 e hi);rw [<- D];exact at1_ok hv (B.ext hE) C
theorem zEU {c:List Poly} {m:Bool} {e:Nat} (j:zBd w cv c) (B:Blk w e 4 [.bool m]) (C:∀ i,i<c.length->c.getD i []≠[]):Ret prog 172 #[cv,.func (.func 258) #[] #[.pointer (some ⟨e,0,none⟩)]] w (fun u _=>u = .int .i64 (zAv m c)):=by
 refine zQo (signs:=c.map (endS m)) j yB sM fun i h w' v D F => ?_;rw [show (c.map (endS m)).getD i 0=endS m (c.getD i []) from by simp [h]];exact ends1_ok F (C i h) (B.ext D)
def AtF (x:Rat) (v:Value) (w:World):Prop:=∃ bx,v = .func (.func 350) #[] #[.pointer (some ⟨bx,0,none⟩)]/\NumAt bx x w
theorem AtF.ext (h:AtF x v w) (j:Ext w w'):AtF x v w':=by
 obtain ⟨bx,e,B⟩:=h;exact ⟨bx,e,B.ext j⟩
theorem between_ok {c:List Poly} {a b:Int} (j:zBd w cv c) (B:IsNum w u x) (C:IsNum w v y) (J:zJJ x c=some a) (M:zJJ y c=some b):Ret prog 260 #[cv,u,v] w (fun r _=>r = .int .i64 (IntKind.i64.wrap (a-b))):=by
 have I:=B;have hy0:=C;obtain ⟨X,Y,rfl,O,Q⟩:=I;obtain ⟨Z,yd,rfl,U,V⟩:=hy0;refine J0 16 func260 rfl (rj ?_);refine K1 (zn (Z3 E0 j.ext B.ext C.ext fun b1 w1 E0 j B C hgb1 h => ?_));refine K1 (zn (Z4a E0 j.ext B.ext C.ext h.ext h.lt fun b2 w2 E0 j B C h hgb2 ne_b1_b2 D=>ag (rM 49 ?_)));refine zA (zAe [[0],[8],[1],[5,1],[0],[10],[1],[5,1],[9,1],[1]] mixed kR fun K hK=>dM aL (du (fun hE hk=>zh zAI hk.1 (h.ext hE) (cw rfl) eR) (dL (AtF x) (fun hE hk=>at_ok (IsNum.of_eq hk.1 (B.ext hE))) ?_)));refine du (u := .int .i64 a) (fun hE hk=>(by obtain ⟨bx,e,F⟩:=hk.2.1;exact zJ yB (CallK.eq2 hk.1 e (CallK.of_ret (zQn (j.ext hE) F J) fun v w2 G H=>⟨G,H⟩)) rfl)) ?_;refine dM aL (du (fun hE hk=>zh zAI hk.1 (D.ext hE) (cw rfl) eR) (dL (AtF y) (fun hE hk=>at_ok (IsNum.of_eq hk.1 (C.ext hE))) ?_));refine du (u := .int .i64 b) (fun hE hk=>(by obtain ⟨bx,e,F⟩:=hk.2.1;exact zJ yB (CallK.eq2 hk.1 e (CallK.of_ret (zQn (j.ext hE) F M) fun v w2 G H=>⟨G,H⟩)) rfl)) ?_;refine du (fun hE hk=>zC hk.1 hk.2.1 rfl eR) (dA aL (zAJ (hK _ fun wq hE => ?_)));rintro _ rfl _ rfl v9 N9 v10 N10 _ rfl _ rfl v13 N13 v14 N14 _ rfl _ rfl;refine zY ?_;obtain ⟨E0,j,B,C,h,D⟩:=V5 hE E0 j.ext B.ext C.ext h.ext D.ext
 refine zK (K5 [6] ?_);exact zE (en rfl E0 rfl)
end Go.Proofs.YtjiendlfobjanaaGreatDoor
namespace Go.Proofs.YtjiendlfobjanaaGreatDoor
open Go Go.RowKit Go.Proofs Tryz
variable {K:Value->World->Prop} {T ty:TypeId} {af:Array Edge} {b b2 c:Nat} {cs:List Value} {g:Option (Nat×Bool)} {l:List Rat} {pos:String} {q:Poly} {r:Option Nat} {u v:Value} {w w' w0:World} {σ:Operand->Value}
theorem IsNum.updT {q:Rat} (h:IsNum w v q) (e:Upd b w w') (j:Blk w b T cs) (B:T≠164):IsNum w' v q:=h.upd e j B
theorem IsPoly.updT (h:IsPoly w v l) (B:Upd b w w') (C:Blk w b T cs) (F:T≠37) (G:T≠164):IsPoly w' v l:=by
 obtain ⟨p,c,H,I,j,J⟩:=h;refine ⟨p,c,H,I,?_,J⟩;rcases j with j | ⟨M,o,cs',O,D,Q,U⟩
 . exact .inl j
 . exact .inr ⟨M,o,cs',O,D.upd B (fun e=>by subst e;exact F (C.inj D).1),Q,fun i V=>(U i V).upd B C G⟩
def KeepT (w w':World):Prop:=∀ b T cs,(T=37\/T=164\/T=67)->Blk w b T cs->Blk w' b T cs
theorem KeepT.trans {a b c:World} (h:KeepT a b) (k:KeepT b c):KeepT a c:=fun i T cs e j=>k i T cs e (h i T cs e j)
theorem KeepT.ext (h:Ext w w'):KeepT w w':=fun _ _ _ _ e=>e.ext h
theorem KeepT.oth {l:Nat} (h:OthX l w w'):KeepT w w':=fun _ _ _ _ e=>e.oth h
theorem KeepT.upd (h:Upd b w w') (B:Blk w b T cs) (C:T≠37) (D:T≠164) (F:T≠67):KeepT w w':=fun c T' cs' G j=>j.upd h fun e=>by
 subst e;have:=(B.inj j).1;subst this;rcases G with e | e | e
 . exact C e
 . exact D e
 . exact F e
theorem IsPoly.keep (h:IsPoly w v l) (H:KeepT w w'):IsPoly w' v l:=by
 have I:∀ {u:Value} {n:Nat},IsW w u n->IsW w' u n:=fun h=>by
  obtain ⟨p,ds,cap,B,C,J,M,O⟩:=h;refine ⟨p,ds,cap,B,C,fun i D => ?_,M,O⟩;obtain ⟨b,o,cs,F,G,j⟩:=J i D;exact ⟨b,o,cs,F,H _ _ _ (.inr (.inl rfl)) G,j⟩
 have Q:∀ {u:Value} {q:Rat},IsNum w u q->IsNum w' u q:=fun h=>by
  obtain ⟨n,d,e,B,C⟩:=h;exact ⟨n,d,e,I B,I C⟩
 obtain ⟨p,c,F,G,j,U⟩:=h;refine ⟨p,c,F,G,?_,U⟩;rcases j with j | ⟨V,o,cs',X,Y,Z,g4⟩
 . exact .inl j
 . exact .inr ⟨V,o,cs',X,H _ _ _ (.inl rfl) Y,Z,fun i D=>Q (g4 i D)⟩
def AccC (sz:Nat) (w:World) (v:Value) (A:List Poly):Prop :=
 ∃ p c,v = .slice p A.length c/\A.length<=c/\((A=[]/\p=none/\c=0)\/∃ b cs,p=some ⟨b,0,none⟩/\sz<=b/\Blk w b 25 cs/\cs.length=c/\∀ i,i<A.length->∃ u,cs[i]? = some u/\IsPoly w u (A.getD i []))
theorem AccC.nil {sz:Nat}:AccC sz w (.slice none 0 0) []:=⟨none,0,rfl,cX _,.inl ⟨rfl,rfl,rfl⟩⟩
theorem AccC.ext {sz:Nat} {A:List Poly} (h:AccC sz w v A) (j:Ext w w'):AccC sz w' v A:=by
 obtain ⟨p,c,B,C,e⟩:=h;refine ⟨p,c,B,C,?_⟩;rcases e with e | ⟨b,cs,D,F,G,H,I⟩
 . exact .inl e
 . exact .inr ⟨b,cs,D,F,G.ext j,H,fun i J=>let ⟨u,M,O⟩:=I i J;⟨u,M,O.ext j⟩⟩
theorem AccC.le {sz:Nat} {A:List Poly} (h:AccC sz w v A) (j:BlkLe w w'):AccC sz w' v A:=by
 obtain ⟨p,c,B,C,e⟩:=h;refine ⟨p,c,B,C,?_⟩;rcases e with e | ⟨b,cs,D,F,G,H,I⟩
 . exact .inl e
 . exact .inr ⟨b,cs,D,F,j _ _ _ G,H,fun i J=>let ⟨u,M,O⟩:=I i J;⟨u,M,O.le j⟩⟩
theorem AccC.upd {sz:Nat} {A:List Poly} (h:AccC sz w v A) (B:Upd b w w') (C:Blk w b T cs) (F:T≠37) (G:T≠164) (H:T≠25):AccC sz w' v A:=by
 obtain ⟨p,c,I,J,j⟩:=h;refine ⟨p,c,I,J,?_⟩;rcases j with j | ⟨M,cs',O,Q,D,U,V⟩
 . exact .inl j
 . exact .inr ⟨M,cs',O,Q,D.upd B (fun e=>by subst e;exact H (C.inj D).1),U,fun i hi=>let ⟨u,X,Y⟩:=V i hi;⟨u,X,Y.updT B C F G⟩⟩
theorem AccC.chain {sz:Nat} {A:List Poly} (h:AccC sz w v A) (j:A.length<=8192):zBd w v A:=by
 obtain ⟨p,c,B,C,F⟩:=h;rcases F with ⟨e,G,D⟩ | ⟨b,cs,e,G,D,J,H⟩
 . exact ⟨p,c,B,C,.inl e,j⟩
 . exact ⟨p,c,B,C,.inr ⟨b,0,cs,e,D,oM,fun i I=>by rw [dW];exact H i I⟩,j⟩
def AppC (sz:Nat) (w w':World):Prop:=Ext w w'\/∃ b cs,sz<=b/\Blk w b 25 cs/\Upd b w w'
theorem AppC.ext {sz:Nat} (h:AppC sz w w') (B:w0.heap.size<=sz) (e:Ext w0 w):Ext w0 w':=by
 rcases h with h | ⟨b,cs,C,D,j⟩
 . exact e.trans h
 . exact e.upd j oM
theorem AppC.blk {sz:Nat} (h:AppC sz w w') (j:Blk w c T cs) (B:T≠25):Blk w' c T cs:=by
 rcases h with h | ⟨b,cs',F,C,D⟩
 . exact j.ext h
 . exact j.upd D (fun e=>by subst e;exact B (j.inj C).1)
theorem AppC.keep {sz:Nat} (h:AppC sz w w'):KeepT w w':=by
 rcases h with h | ⟨b,cs',B,e,j⟩
 . exact KeepT.ext h
 . exact KeepT.upd j e dE dE dE
theorem AppC.nc {sz:Nat} (h:AppC sz w w'):NC w w':=by
 rcases h with h | ⟨b,cs',B,e,j⟩
 . exact NC.ext h
 . exact NC.upd j e
theorem zGA {d:Option Tmp} {x y:Operand} {sz:Nat} {A:List Poly} 
 (hx:AccC sz w (σ x) A) (hy:σ y = .slice (some ⟨b2,0,none⟩) 1 1) (J:Blk w b2 25 [u]) (O:IsPoly w u q) (hA:A.length<8192) (Z:sz<=w.heap.size)
 (hk:∀ v w',AppC sz w w'->AccC sz w' v (A++[q])->K v w') :
 Runs prog r ⟨d,.call { callee := .builtin .append,args := #[x,y],argTypes := #[240,240] },ty,pos,af,g⟩ σ w K:=by
 obtain ⟨p,c,h1,h2,h3⟩:=hx;have hok:[u].all zDT=true:=by obtain ⟨p',Q,rfl,_⟩:=O;rfl
 have B:∀ i,i<A.length->(A++[q]).getD i []=A.getD i []:=fun i h=>by simp [eS h]
 have C:(A++[q]).getD A.length []=q:=sM
 by_cases hc:A.length+1<=c
 . rcases h3 with ⟨D,G,j⟩ | ⟨b,cs,D,G,j,e4,U⟩
   . omega
   . subst D;refine zAz (n:=1) zFy zFy zTr h1 hy j (Cells.blk J) rfl hc oM hok fun w' V hN=>hk _ w' (.inr ⟨b,cs,G,j,V⟩) ?_;rw [dW,fT] at hN;refine ⟨_,c,sM,by simpa using hc,.inr ⟨b,_,rfl,G,hN,by rw [zAu];exact e4,fun i h => ?_⟩⟩;show ∃ v,(cs.set A.length u)[i]? = some v/\_;by_cases e:i<A.length
     . obtain ⟨v,H,I⟩:=U i e;exact ⟨v,by rw [fz oM];exact H,by rw [B i e];exact I.updT V j dE dE⟩
     . have:i=A.length:=by simp at h;omega
       subst this;exact ⟨u,by rw [List.getElem?_set_self oM],by rw [C];exact O.updT V j dE dE⟩
 . have al:=zAc (A.length+1) c;have hold:∃ old,Cells w p 25 old/\old.length=A.length*1/\∀ i,i<A.length->∃ v,old[i]? = some v/\IsPoly w v (A.getD i []):=by
    rcases h3 with ⟨D,G,j⟩ | ⟨b,cs,D,G,j,e4,U⟩
    . subst D;exact ⟨[],.inl rfl,rfl,fun i h=>by simp at h⟩
    . refine ⟨cs.take A.length,.inr ⟨b,0,cs,D,j,sM⟩,by simp;omega,fun i h => ?_⟩;obtain ⟨v,H,I⟩:=U i h;exact ⟨v,by rw [fk,cD h];exact H,I⟩
   obtain ⟨old,o1,X,o3⟩:=hold;refine zAW zFy zFy zTr rfl dE h1 hy o1 X (Cells.blk J) rfl oM oM fun w' rest Q H Y hB I _=>hk _ w' (.inl Y) ?_;have aa:rest.length=(Q-(A.length+1))*1:=by rw [I];simp [Builtin.zeroCells,Value.cells]
   refine ⟨_,Q,sM,by simpa using H,.inr ⟨w.heap.size,_,rfl,Z,hB,by simp [X,aa];omega,fun i h => ?_⟩⟩;by_cases e:i<A.length
   . obtain ⟨v,k1,k2⟩:=o3 i e;exact ⟨v,by rw [dU,eS oM];exact k1,by rw [B i e];exact k2.ext Y⟩
   . have:i=A.length:=by simp at h;omega
     subst this;exact ⟨u,by rw [dU,fJ oM];simp [X],by rw [C];exact O.ext Y⟩
end Go.Proofs.YtjiendlfobjanaaGreatDoor
namespace Go.Proofs.YtjiendlfobjanaaGreatDoor
open Go Go.RowKit Go.Proofs Tryz
set_option maxRecDepth 10000
set_option maxHeartbeats 2000000
attribute [local irreducible] Runs WPE CallK Ret
variable {b1 b2 i:Nat} {p q s:Poly} {x:Rat}
theorem zPr:Plain prog 67:=pU
theorem size67:(prog.info? 67).map (·.size)=some 1:=kR
theorem size240:(prog.info? 240).map (·.size)=some 1:=kR
theorem zero67:(prog.info? 67).bind (·.zero)=some .nilFunc:=kR
theorem zero240:(prog.info? 240).bind (·.zero)=some (.slice none 0 0):=kR
theorem pscale_length (h:zDg p x=some s):s.length<=p.length:=by
 obtain ⟨L,e,rfl⟩:=map_some h;exact dz (zAV L) (dS (zFq e))
theorem psmall_length (h:zCU p=some s):s.length<=p.length:=by
 unfold zCU at h;split at h
 . cases h;simp
 . obtain ⟨c,_,h⟩:=bind_some h;exact dz (pscale_length h) (zAV p)
theorem zJI:∀ {f:Nat} {p q:Poly} {c:List Poly},zBe f p q=some c->c.length<=f/\∀ i,i<c.length->c.getD i []≠[]
 | 0,p,q,c,h=>by cases h
 | f+1,p,q,c,h=>by
  unfold zBe at h;split at h
  . cases h;exact ⟨di _,fun i hi=>by simp at hi⟩
  . rename_i hp;split at h
    · cases h; exact ⟨by simp, fun i hi => by have : i = 0 := by simp at hi; omega
                                              subst this;simpa using hp⟩
    . obtain ⟨r,_,h⟩:=bind_some h;obtain ⟨s,_,h⟩:=bind_some h;obtain ⟨t,_,h⟩:=bind_some h;obtain ⟨l,hl,h⟩:=bind_some h;cases h;obtain ⟨g1,g2⟩:=zJI hl;refine ⟨by simp;omega,fun i hi => ?_⟩;cases i with
      | zero=>simpa using hp
      | succ i=>simpa using g2 i (by simpa using hi)
theorem zEb {c:List Poly} (h:chain p q=some c):c.length<=q.length+2/\∀ i,i<c.length->c.getD i []≠[]:=by
 obtain ⟨B,_,h⟩:=bind_some h;obtain ⟨C,e,h⟩:=bind_some h;obtain ⟨D,j⟩:=zJI h;have:=psmall_length e;exact ⟨oM,j⟩
def encP (c:List Poly) (i:Nat) (args:Array Value) (w:World):Prop:=∃ v,args = #[v]/\IsPoly w v (c.getD i [])
theorem drop_head {c l:List Poly} {P:Poly} (h:c.drop i=P :: l):i<c.length/\c.getD i []=P/\c.drop (i+1)=l:=by
 have j:i<c.length:=by
  rcases dR i c.length with e | e
  . exact e
  . rw [fp e] at h;cases h
 rw [dZ j] at h;have e:=iJ h;exact ⟨j,by simp [j,e.1],e.2⟩
def SmF:Value := .func (.func 313) #[] #[]
theorem sturm2_ok {c:List Poly} (h:chain p q=some c) (l:Nat) (J:Nat->World->Prop) (U:∀ i w1 w2,J i w1->Ext w1 w2->J i w2) (hy:∀ i,i<c.length->∀ args w1,J i w1->encP c i args w1->zLY prog l args w1 (fun u w2=>u = .bool true/\J (i+1) w2/\KeepT w1 w2)) (w:World) (h0:J 0 w) {b3:Nat} {vp vq:Value} (C:Blk w b1 67 [SmF]) (ar:Blk w b2 25 [vp]) (au:Blk w b3 25 [vq]) (hp:IsPoly w vp p) (hq:IsPoly w vq q):CallK prog 314 #[.func (.yield l) #[] #[],.pointer (some ⟨b1,0,none⟩),.pointer (some ⟨b2,0,none⟩),.pointer (some ⟨b3,0,none⟩)] w (fun _ w'=>J c.length w'):=by
 obtain ⟨p1,h1,h⟩:=bind_some h;obtain ⟨q1,h2,h3⟩:=bind_some h;refine zDx 37 func314 rfl rfl (cw rfl) (zA (zAe [[2],[4],[3,1],[2],[6],[3,1],[7],[3]] mixed kR fun K hK=>du (u:=SmF) (fun j B=>zD zPr B.1 (C.ext j) rfl eR) (dcp (fun v w'=>IsPoly w' v (p)) (fun _ _ _ _ hx h=>h.ext hx.toExt) (fun σ wx j B=>zD zBv B.1 (ar.ext j) rfl ⟨Ext.refl _,hp.ext j⟩) (dC (fun v w'=>IsPoly w' v (p1)) (fun j B=>zCi B.1 yB (CallK.of_ret (zEw B.2.1 h1) fun v w2 O M=>⟨O,M.poly⟩)) (du (u:=SmF) (fun j B=>zD zPr B.1 (C.ext j) rfl eR) (dC (fun v w'=>IsPoly w' v (q)) (fun j B=>zD zBv B.1 (au.ext j) rfl ⟨Ext.refl _,hq.ext j⟩) (dC (fun v w'=>IsPoly w' v (q1)) (fun j B=>zCi B.1 yB (CallK.of_ret (zEw B.2.1 h2) fun v w2 O M=>⟨O,M.poly⟩)) (dC (fun v w'=>IsPoly w' v (p1)) (fun j B=>zr (eX B.1)) (dC (fun v w'=>IsPoly w' v (q1)) (fun j B=>zr (eX B.1)) (zAJ (hK _ fun wq j => ?_)))))))))));rintro v9 N9 v10 N10 v11 N11 v12 N12 v13 N13 v14 N14 v5 N5 v6 N6;refine zY ?_;replace C:=C.ext j;have G:=U _ _ _ h0 j;refine zK (K5 [0,1,5,6] ?_);refine zF ?_
 refine zX (X:=Nat) (fun f ρ w'=>∃ v5 v6 P Q i,Keep ρ [(0,.func (.yield l) #[] #[]),(1,.pointer (some ⟨b1,0,none⟩)),(5,v5),(6,v6)]/\IsPoly w' v5 P/\IsPoly w' v6 Q/\i<=c.length/\zBe f P Q=some (c.drop i)/\J i w'/\Blk w' b1 67 [SmF]) (fun f=>f) (q1.length+2) ⟨_,_,p1,q1,0,(kp rfl),N5,N6,di _,by rw [eT];exact h3,G,C⟩ ?_;clear N5;rintro f ρ1 w1 ⟨v5,v6,P,Q,i,B,H,D,aM,F,G,C⟩;have hP0:=H;have hQ0:=D;obtain ⟨pp,pc,rfl,-,-,-⟩:=hP0;obtain ⟨qp,qc,rfl,-,-,-⟩:=hQ0;refine wpe_k _ B ?_;rcases f with _ | f
 . cases F
 unfold zBe at F;refine zA (rJ (K1 (zG zAC rfl (K8 rfl (rM 131171 ?_)))));refine K0 rfl ?_ ?_<;>intro hc
 . have V:P≠[]:=fun e=>by rw [e] at hc;cases hc
   rw [ct V] at F;obtain ⟨l2,av,F⟩:∃ l2,c.drop i=P :: l2/\((Q=[]/\l2=[])\/(Q≠[]/\∃ r s t,pdiv P Q=some r/\zDg r.2 (-1)=some s/\zCU s=some t/\zBe f Q t=some l2)):=by
    split at F
    . rename_i hQ;exact ⟨[],(dj F).symm,.inl ⟨hQ,rfl⟩⟩
    . rename_i hQ;obtain ⟨r,e1,F⟩:=bind_some F;obtain ⟨s,e2,F⟩:=bind_some F;obtain ⟨t,e3,F⟩:=bind_some F;obtain ⟨l2,e4,F⟩:=bind_some F;exact ⟨l2,(dj F).symm,.inr ⟨hQ,r,s,t,e1,e2,e3,e4⟩⟩
   obtain ⟨aw,ax,ae⟩:=drop_head av;refine sk (zF (zA (rJ (mv (K1 (zMM rfl ?_))))));refine CallK.conv (hy i aw #[.slice pp P.length pc] _ G ⟨_,rfl,by rw [ax];exact H⟩) ?_;rintro _ w3 ⟨rfl,ay,Y⟩;replace H:=H.keep Y;replace D:=D.keep Y;replace C:=Y _ _ _ (.inr (.inr rfl)) C;clear G;have G:=ay;refine K1 (zp rfl (rM 2097251 ?_));refine wcf rfl (sk (zA (zA ?_)));rcases F with ⟨Z,aa⟩ | ⟨Z,r,s,t,e1,e2,e3,aa⟩
   . subst Z;have I:i+1=c.length:=by
      have e:=cW List.length ae;rw [aa,gH] at e;simp at e;omega
     refine rI (K1 (zG zAC rfl (K8 rfl (rS 16777315 ?_))));refine wct rfl (zE (zU (zd (zAP (zd (zM ?_))))));exact ⟨rfl,_,zGl rfl,by rw [<- I];exact G⟩
   . obtain ⟨dq,dr⟩:=r;have hQl:Q.length≠0:=fun e=>Z (ef e);refine rI (K1 (zG zAC rfl (K8 rfl (rS 16777315 ?_))));refine wcf (cW Value.bool (dk.2 oM)) (sk (rJ (mv (K1 (zJ yB (CallK.of_ret (zDl H D e1) fun v28 w4 j M => ?_) rfl)))));obtain ⟨da,db,rfl,-,hD⟩:=M;replace hD:=hD.poly;replace D:=D.ext j;replace C:=C.ext j;replace G:=U _ _ _ G j;refine mv (xt rfl (xt rfl (ag (ag (rM 355 ?_)))));refine zAe [[12],[2],[16],[],[3,1],[7,1],[11],[3]] mixed kR fun K hK=>dM aL (du (u:=SmF) (fun j B=>zD zPr B.1 (C.ext j) rfl eR) (dM aL (dl (fun j B=>zDC (n := -1) dE dE) (dC (fun v w'=>IsPoly w' v (s)) (fun j B=>zJ yB (CallK.of_ret (zDL (IsPoly.of_eq B.1 (hD.ext j)) B.2.1 e2) fun v w2 O M=>⟨O,M.poly⟩) rfl) (dC (fun v w'=>IsPoly w' v (t)) (fun j B=>zCi B.1 yB (CallK.of_ret (zEw B.2.1 e3) fun v w2 O M=>⟨O,M.poly⟩)) (dA aL (dC (fun v w'=>IsPoly w' v (t)) (fun j B=>zr (eX B.1)) (zAJ (hK _ fun wq j => ?_)))))))));rintro _ rfl v32 N32 _ rfl v34 N34 v35 N35 v36 N36 _ rfl v6 N6;refine zY ?_;replace C:=C.ext j;replace G:=U _ _ _ G j;replace D:=D.ext j;have N5:=D;refine zN (zL ?_)
     exact ⟨rfl,f,⟨_,_,Q,t,i+1,(kp rfl),N5,N6,oM,by rw [ae];exact aa,G,C⟩,oM⟩
 . have V:P=[]:=ef (by have:=de hc;omega);rw [cD V] at F;have I:i=c.length:=by
    have e:=cW List.length (dj F);rw [gH] at e;simp at e;omega
   subst I;exact zT (zt (zf (zI (zQq ⟨rfl,_,zGl rfl,G⟩))))
variable {T:TypeId} {c cu:Nat} {cs:List Value} {l:List Rat} {pu pv:Option Addr} {u v:Value} {w w':World}
theorem AppC.blkLt {sz:Nat} (h:AppC sz w w') (e:Blk w c T cs) (B:c<sz):Blk w' c T cs:=by
 rcases h with h | ⟨b,cs',C,D,j⟩
 . exact e.ext h
 . exact e.upd j oM
theorem zBd.le {c:List Poly} (h:zBd w v c) (j:BlkLe w w'):zBd w' v c:=by
 obtain ⟨p,k,B,C,e,D⟩:=h;refine ⟨p,k,B,C,?_,D⟩;rcases e with e | ⟨b,o,cs,F,G,H,I⟩
 . exact .inl e
 . exact .inr ⟨b,o,cs,F,j _ _ _ G,H,fun i J=>let ⟨u,M,O⟩:=I i J;⟨u,M,O.le j⟩⟩
theorem take_succ_p {c:List Poly} (e:i<c.length):c.take (i+1)=c.take i++[c.getD i []]:=by
 rw [List.take_add_one];simp [e]
theorem zNc {G H cv:Nat}:Ret prog 257 #[.slice pu G cu,.slice pv H cv] w (fun r w'=>∃ b2 C b1,r = .func (.func 314) #[] #[.pointer (some ⟨b1,0,none⟩),.pointer (some ⟨b2,0,none⟩),.pointer (some ⟨C,0,none⟩)]/\Blk w' b1 67 [SmF]/\Blk w' b2 25 [.slice pu G cu]/\Blk w' C 25 [.slice pv H cv]/\w.heap.size<=b1/\w.heap.size<=b2/\w.heap.size<=C):=by
 refine J0 7 func257 rfl (rj ?_);refine K1 (zn (Z0 E0 fun b1 w1 E0 D e => ?_));refine K1 (zn (Z1a E0 e.ext e.lt fun b2 w2 E0 e F ne_b1_b2 h=>ag (rM 12 ?_)));refine rj ?_;refine K1 (zR zero67 (Z2b E0 e.ext h.ext e.lt h.lt fun C w3 E0 e h B ne_b1_b3 ne_b2_b3 j=>K1 (zc size67 rfl j rfl (cw rfl) dE rfl fun w4 hU hN => ?_)));replace E0:=E0.upd hU B;replace e:=e.upd hU ne_b1_b3;replace h:=h.upd hU ne_b2_b3;clear j;have j:=hN;refine rM 44 ?_;refine rj (K1 (zCj (ag (rm [4] ?_))));exact zE (en rfl E0 ⟨b1,b2,C,rfl,j,e,h,B,D,F⟩)
theorem IsPoly.len (h:IsPoly w v l):l.length<=4096:=by obtain ⟨p,c,_,_,_,h⟩:=h;exact h
theorem AppC.size {sz:Nat} (h:AppC sz w w'):w.heap.size<=w'.heap.size:=by
 rcases h with h | ⟨b,cs',j,B,e⟩
 . exact h.size
 . have:=e.size;omega
theorem zEs {c:List Poly} (M:IsPoly w u p) (I:IsPoly w v q) (h:chain p q=some c):Ret prog 171 #[u,v] w (fun r w'=>zBd w' r c):=by
 have aD:c.length<=4098:=by have:=(zEb h).1;have:=I.len;omega
 have an:=M;have hq0:=I;obtain ⟨pu,cu,rfl,-⟩:=an;obtain ⟨pv,cv,rfl,-⟩:=hq0;have E0:Ext w w:=Ext.refl w;refine zLD 16 func171 rfl rfl (cw rfl) (rj (ag (rM 3 ?_)));refine rj ?_;refine K1 (zR zero240 (Z2 E0 M.ext I.ext fun b1 w1 E0 M I hgb1 j=>rM 35 ?_));refine zA (rJ (mv (K1 (zJ yB (CallK.of_ret zNc fun v9 w9 H hr => ?_) rfl))));obtain ⟨c2,c3,c1,rfl,C,F,G,aE,aF,aG⟩:=hr;have hx1:b1≠c1:=by have:=j.lt;omega
 have ao:b1≠c2:=by have:=j.lt;omega
 have ap:b1≠c3:=by have:=j.lt;omega
 obtain ⟨E0,j,M,I⟩:=V3 H E0 j.ext M.ext I.ext;refine rM 544 ?_;refine zF ?_;obtain ⟨sz,aH⟩:∃ sz,w9.heap.size=sz:=⟨_,rfl⟩;have hlb1:b1<sz:=by have:=j.lt;omega
 have aI:c1<sz:=by have:=C.lt;omega
 have aq:c2<sz:=by have:=F.lt;omega
 have ar:c3<sz:=by have:=G.lt;omega
 have ad:w.heap.size<=sz:=by have:=E0.size;omega
 refine zLR rfl rfl yB dE (fun i w'=>Ext w w'/\sz<=w'.heap.size/\(∃ V,Blk w' b1 240 [V]/\AccC sz w' V (c.take i))/\Blk w' c1 67 [SmF]/\Blk w' c2 25 [.slice pu p.length cu]/\Blk w' c3 25 [.slice pv q.length cv]/\IsPoly w' (.slice pu p.length cu) p/\IsPoly w' (.slice pv q.length cv) q) KeepT c.length (encP c)
  (fun i args w1 h=>by obtain ⟨v,e,_⟩:=h;rw [e];rfl)
  (fun w1 H=>⟨E0.trans H,by have:=H.size;omega,⟨_,j.ext H,by rw [List.take_zero];exact AccC.nil⟩,C.ext H,F.ext H,G.ext H,M.ext H,I.ext H⟩)
  (fun i w1 w2 hI H=>by obtain ⟨g1,g2,⟨V,g3,g4⟩,X,Y,Z,g8,g9⟩:=hI;exact ⟨g1.trans H,by have:=H.size;omega,⟨V,g3.ext H,g4.ext H⟩,X.ext H,Y.ext H,Z.ext H,g8.ext H,g9.ext H⟩)
  (fun i l w1 w2 hl hI B=>by obtain ⟨g1,g2,⟨V,g3,g4⟩,X,Y,Z,g8,g9⟩:=hI;exact ⟨g1.oth B oM,by rw [B.size];exact g2,⟨V,g3.oth B,g4.le B.le⟩,X.oth B,Y.oth B,Z.oth B,g8.le B.le,g9.le B.le⟩)
  (fun l J au av hy w1 H h0=>by obtain ⟨g1,g2,-,X,Y,Z,g8,g9⟩:=av 0 w1 h0;exact sturm2_ok h l J au hy w1 h0 X Y Z g8 g9)
  ?_ ?_
 . rintro l i args w1 hl hi ⟨E0,O,⟨V,j,U⟩,C,F,G,M,I⟩ ⟨vi,rfl,Q⟩;refine wpe_k [(5,.pointer (some ⟨b1,0,none⟩)),(10,vi)] (kp rfl) ?_;refine K6 (ag (rl ⟨rfl,rfl,NC.refl _,fun w5 B => ?_⟩));replace E0:=E0.oth B oM;replace O:sz<=w5.heap.size:=(by rw [B.size];exact O);replace j:=j.oth B;replace U:=U.le B.le;replace C:=C.oth B;replace F:=F.oth B;replace G:=G.oth B;replace M:=M.le B.le;replace I:=I.le B.le;replace Q:=Q.le B.le;have hKT:=KeepT.oth B;refine zF (K6 (K1 (zD zRF rfl j rfl (mv ?_))));refine K1 (zi (cs:=[vi]) zFy info25' dE dE (by obtain ⟨pp,pc,rfl,-⟩:=Q;kernel_rfl) fun bb w10 hb H hBb hs => ?_);have hNC:=NC.ext H;replace hKT:=hKT.trans (KeepT.ext H);have hs2:=H.size;replace O:sz<=w10.heap.size:=by omega
   clear hs2;obtain ⟨E0,j,U,C,F,G,M,I,Q⟩:=V8 H E0 j.ext U.ext C.ext F.ext G.ext M.ext I.ext Q.ext;refine K1 (zGA U rfl hBb Q (by rw [eW];omega) O fun vb w11 hX hA2 => ?_);replace hKT:=hKT.trans hX.keep;replace hNC:=hNC.trans hX.nc;have hs2:=hX.size;replace O:sz<=w11.heap.size:=oM
   replace E0:=hX.ext ad E0;replace j:=hX.blk j dE;replace C:=hX.blk C dE;replace F:=hX.blkLt F aq;replace G:=hX.blkLt G ar;replace M:=M.keep hX.keep;replace I:=I.keep hX.keep;clear U;have hA3:=hA2;obtain ⟨aK,ac,rfl,-⟩:=hA3;refine K1 (zc size240 rfl j rfl (cw rfl) dE rfl fun w12 hU hN => ?_);replace hKT:=hKT.trans (KeepT.upd hU j dE dE dE);replace hNC:=hNC.trans (NC.upd hU j);replace O:sz<=w12.heap.size:=by have:=hU.size;omega
   replace E0:=E0.upd hU hgb1;have U:=hA2.upd hU j dE dE dE;replace C:=C.upd hU (eH hx1);replace F:=F.upd hU (eH ao);replace G:=G.upd hU (eH ap);replace M:=M.updT hU j dE dE;replace I:=I.updT hU j dE dE;clear j;have j:=hN;refine rl (zN ?_);refine ⟨rfl,hNC,fun w8 B=>⟨⟨E0.oth B oM,by rw [B.size];exact O,⟨_,j.oth B,(by rw [take_succ_p hi];exact U.le B.le)⟩,C.oth B,F.oth B,G.oth B,M.le B.le,I.le B.le⟩,hKT.trans (KeepT.oth B)⟩⟩
 . rintro D w2 hD ⟨E0,O,⟨V,j,U⟩,C,F,G,M,I⟩ aw;rw [ej] at U;refine zN (zK (rj (K1 (zD zRF rfl j rfl (ag (rm [4] ?_))))));refine zE (zM ?_);exact ⟨D,_,rfl,aw,fun w2 B=>⟨zZ rfl rfl,E0.oth B oM,(U.chain (by have:=(zEb h).1;have:=I.len;omega)).le B.le⟩⟩
theorem zTx {c:List Poly} (e:IsPoly w v p) (h:own p=some c):Ret prog 255 #[v] w (fun r w'=>zBd w' r c):=by
 obtain ⟨s,j,h⟩:=bind_some h;obtain ⟨d,B,C⟩:=bind_some h;refine J0 9 func255 rfl (rj (ag (rM 1 ?_)));refine rJ (K1 (j0 E0 yB (zLK e j) fun v4 w2 E0 N4=>ag (rM 1 ?_)));refine rJ (mv ?_);have N4:=N4.poly;refine K1 (j1 E0 N4.ext yB (zDr N4 B) fun v7 w2 E0 N4 N7=>K1 (j0 E0 yB (zEs N4 N7.poly C) fun v8 w2 E0 N8=>ag (rM 4 ?_)));exact zE (en rfl E0 N8)
variable {b:Nat} {cv:Value} {f:FuncId} {y:Rat}
def longP (p:Poly):Bool:=decide (41<(trim p).length)
def idxL {α:Type} (pr:α->Bool):List α->Nat->Int
 | [],_ => -1
 | p :: l,i=>if pr p then (i:Int) else idxL pr l (i+1)
theorem zGn {α:Type} {pr:α->Bool}:∀ {l:List α} {i:Nat},(idxL pr l i = -1/\l.any pr=false)\/((i:Int)<=idxL pr l i/\idxL pr l i<i+l.length/\l.any pr=true)
 | [],i => .inl ⟨rfl,rfl⟩
 | p :: l,i=>by
  unfold idxL;by_cases h:pr p=true
  . rw [cD h];exact .inr ⟨ia _,by simp;omega,by simp [h]⟩
  . rw [ct h];rcases @zGn α pr l (i+1) with ⟨e,j⟩ | ⟨e,j,B⟩
    . exact .inl ⟨e,by simp [h,j]⟩
    . exact .inr ⟨oM,by simp;omega,by simp [h,B]⟩
theorem zLh {l:List Poly} (h:i<l.length):l.drop i=l.getD i [] :: l.drop (i+1):=by
 rw [dZ h];simp [h]
theorem IsPoly.chain1 (h:IsPoly w v p) (e:Blk w b 25 [v]):zBd w (.slice (some ⟨b,0,none⟩) 1 1) [p] :=
 ⟨_,1,rfl,cX _,.inr ⟨b,0,_,rfl,e,sM,fun i j=>by
  obtain rfl:i=0:=by simp at j;omega
  exact ⟨v,rfl,h⟩⟩,sM⟩
theorem zEe:∀ {l:List Int} {e n:Int},n<=flipL l e n/\flipL l e n<=n+l.length
 | [],e,n=>by simp [flipL]
 | s :: l,e,n=>by
  unfold flipL;split
  . have := @zEe l e n;simp;omega
  . split
    . have := @zEe l s (n+1);simp;omega
    . have := @zEe l s n;simp;omega
theorem zJK {c:List Poly} {a:Int} (h:zJJ x c=some a):0<=a/\a<=c.length:=by
 obtain ⟨l,e,rfl⟩:=map_some h;have := @zEe l 0 0;rw [zFq e] at this;omega
theorem zDE {m:Bool} {c:List Poly}:0<=zAv m c/\zAv m c<=c.length:=by
 have := @zEe (c.map (endS m)) 0 0;simp at this;unfold zAv;omega
theorem zEA {z:Int} (h:rcmp x y=some z):rroom x y=true/\z=rcmpI x y:=by
 unfold rcmp at h;split at h
 . exact ⟨by assumption,(dj h).symm⟩
 . cases h
theorem long1_ok (e:IsPoly w v p):Ret prog 310 #[v] w (fun u _=>u = .bool (longP p)):=by
 refine J0 6 func310 rfl (rj (ag (rM 1 ?_)));refine rJ (K1 (j0 E0 yB (zCn e) fun j w2 E0 h => ?_));subst h;refine K8 rfl (ag (rM 4 ?_));exact zE (en rfl E0 (cW Value.bool (fR.2 oM)))
theorem Index_ok {c:List Poly} {pr:Poly->Bool} (h:zBd w cv c) (D:zBA prog f) (C:∀ i,i<c.length->∀ (w':World) (v:Value),Ext w w'->IsPoly w' v (c.getD i [])->Ret prog f #[v] w' (fun u _=>u = .bool (pr (c.getD i [])))):Ret prog 349 #[cv,.func (.func f) #[] #[]] w (fun u _=>u = .int .i64 (idxL pr c 0)):=by
 obtain ⟨F,G,rfl,J,H,M⟩:=h;refine J0 19 func349 rfl (rj (ag (rM 3 ?_)));refine zA (rJ (K1 (zG zJv rfl (mv (rM 387 ?_)))));refine zF (zX (X:=Nat) (fun i ρ w'=>Keep ρ [(0,.slice F c.length G),(1,.func (.func f) #[] #[]),(7,.int .i64 (c.length:Nat)),(8,.int .i64 (i:Nat))]/\i<=c.length/\Ext w w'/\idxL pr (c.drop i) i=idxL pr c 0) (fun i=>c.length-i) 0 ⟨(kp rfl),di _,E0,rfl⟩ ?_);rintro i ρ1 w1 ⟨I,O,E0,j⟩;refine wpe_k _ I ?_;refine rj (K8 rfl (rM 899 ?_));refine zA ?_;refine K0 rfl ?_ ?_<;>intro h
 . have B:i<c.length:=t_lt h;have hC1:=H.ext E0;rw [zLh oM,idxL] at j;refine sk (zA (zF (rJ (ag (rM 419 ?_)))));refine rJ (mv (mv (K1 (zHf hC1 rfl rfl B (K1 (zIt hC1 B rfl fun v15 N15=>K1 (zCi rfl D (CallK.of_ret (C i B _ v15 E0 N15) fun v19 w2 hE hr => ?_))))))));subst hr;replace E0:=E0.trans hE;refine rM 65955 ?_;refine K0 rfl ?_ ?_<;>intro h
   . have e:pr (c.getD i [])=true:=h;rw [cD e] at j;refine rJ (ag (rM 403 ?_));refine zE (zd (zU (zAP (zd (zU (zM ?_))))));exact ⟨rfl,_,zZ rfl rfl,E0,by rw [<- j];rfl⟩
   . have e:pr (c.getD i [])=false:=h;rw [ct (by rw [e];decide)] at j;exact zw (zN (zK (K6 (K8 rfl (mv (rl (zL (⟨rfl,i+1,⟨kw,oM,E0,j⟩,oM⟩))))))))
 . have Q:=f_lt h;obtain rfl:i=c.length:=by omega
   rw [fp oM,idxL] at j;refine zT (zt (zf (zI (zK (rj (ag (rM 403 ?_)))))));refine zE (zM ?_);exact ⟨rfl,_,zZ rfl rfl,E0,by rw [<- j];rfl⟩
theorem Contains_ok {c:List Poly} {pr:Poly->Bool} (j:zBd w cv c) (B:zBA prog f) (e:∀ i,i<c.length->∀ (w':World) (v:Value),Ext w w'->IsPoly w' v (c.getD i [])->Ret prog f #[v] w' (fun u _=>u = .bool (pr (c.getD i [])))):Ret prog 309 #[cv,.func (.func f) #[] #[]] w (fun u _=>u = .bool (c.any pr)):=by
 refine J0 9 func309 rfl (rj (ag (rM 3 ?_)));refine rJ (mv (K1 (j0 E0 yB (Index_ok j B e) fun G w2 E0 C => ?_)));subst C;refine K8 rfl (ag (rm [4] ?_));refine zE (zM ?_);exact ⟨rfl,_,zZ rfl rfl,E0,cW Value.bool (by
  rcases @zGn _ pr c 0 with ⟨D,h⟩ | ⟨D,h,F⟩
  . rw [h];exact cU oM
  . rw [F];exact cZ oM)⟩
theorem zPn {c:List Poly} (e:zBd w cv c):Ret prog 252 #[cv] w (fun u _=>u = .bool (c.any longP)):=by
 refine J0 5 func252 rfl (rj (ag (rM 1 ?_)));refine rJ (K1 (j0 E0 yB (Contains_ok (pr:=longP) e yB fun i j w2 v B h=>long1_ok h) fun vi w2 E0 hr => ?_));subst hr;refine ag (rM 4 ?_);exact zE (en rfl E0 rfl)
theorem zHo (j:IsPoly w v p):Ret prog 165 #[v] w (fun u _=>u = .int .i64 (asked p)):=by
 refine J0 11 func165 rfl (rj (ag (rM 1 ?_)));refine zA (zF (rj (mv ?_)));refine K1 (zi (cs:=[v]) zFy info25' dE dE (by obtain ⟨pp,F,rfl,-⟩:=j;kernel_rfl) fun bb w10 hb hE hBb hs => ?_);obtain ⟨E0,j⟩:=V1 hE E0 j.ext;refine K1 (j1 E0 j.ext yB (zPn (j.chain1 hBb)) fun D w2 E0 j B => ?_);subst B;refine ag (rM 9 ?_);refine K0 rfl ?_ ?_<;>intro hc
 . have h:41<(trim p).length:=by have h1:=show ([p].any longP)=true from hc;simpa [longP] using h1
   refine rj (ag (rM 4 ?_));refine zE (zd (zU (zM ?_)));exact ⟨rfl,_,zZ rfl rfl,E0,by rw [asked,cD h];rfl⟩
 . have h:¬ 41<(trim p).length:=by have h1:=show ([p].any longP)=false from hc;simp [longP] at h1;omega
   refine rJ (K1 (j0 E0 yB (zCn j) fun D w2 E0 B => ?_));subst B;refine K8 rfl (ag (rm [7] ?_));refine K0 rfl ?_ ?_<;>intro hc
   . have C:trim p=[]:=ef (by have:=dh hc;omega);refine rj (ag (rM 4 ?_));refine zE (zd (zU (zM ?_)));exact ⟨rfl,_,zZ rfl rfl,E0,by rw [asked,ct h,cD C];rfl⟩
   . have C:trim p≠[]:=fun e=>by rw [e] at hc;cases hc
     refine zw (zN (zK (rj (ag (rM 4 ?_)))));refine zE (zM ?_);exact ⟨rfl,_,zZ rfl rfl,E0,by rw [asked,ct h,ct C];rfl⟩
variable {N t:Nat} {P:Program} {fn:Func} {u1 u2:Value} {ρ:Env}
theorem zFk (p:Poly):asked p=0\/asked p=3\/asked p=8:=by
 unfold asked;split
 . exact .inr (.inl rfl)
 . split
   . exact .inr (.inr rfl)
   . exact .inl rfl
theorem zBu {u s:Nat} (h:fn.results = #[.tmp t,.tmp u,.tmp s]) (j:(dom ρ).contains t=true) (B:(dom ρ).contains u=true) (C:(dom ρ).contains s=true):Gives P fn N ρ w (.tuple #[look1 ρ t,look1 ρ u,look1 ρ s]):=fun a e=>by
 rw [show (results fn a.tmps).run P w = .ok (.tuple #[a.tmps.getD t undef,a.tmps.getD u undef,a.tmps.getD s undef]) w from by simp [results,h],e.at_ t (by simpa using j),e.at_ u (by simpa using B),e.at_ s (by simpa using C)]
theorem zTw {c:List Poly} (h:own p=some c):∀ i,i<c.length->c.getD i []≠[]:=by
 obtain ⟨s,_,h⟩:=bind_some h;obtain ⟨d,_,h⟩:=bind_some h;exact (zEb h).2
theorem zBd.len {c:List Poly} (h:zBd w v c):c.length<=8192:=by obtain ⟨_,_,_,_,_,h⟩:=h;exact h
theorem Count_ok {n:Int×Int} (D:IsPoly w v p) (C:IsNum w u1 x) (F:IsNum w u2 y) (h:count p x y=some n):Ret prog 178 #[v,u1,u2] w (fun r _=>r = .tuple #[.int .i64 n.1,.int .i64 n.2]):=by
 have Q:=C;have hy0:=F;obtain ⟨xn,xd,rfl,Z,aa⟩:=Q;obtain ⟨yn,yd,rfl,ab,ad⟩:=hy0;refine J0 27 func178 rfl (rj ?_);refine K1 (zn (Z3 E0 D.ext C.ext F.ext fun b1 w1 E0 D C F hgb1 j => ?_));refine K1 (zn (Z4a E0 D.ext C.ext F.ext j.ext j.lt fun b2 w2 E0 D C F j hgb2 ne_b1_b2 B=>ag (ag (rM 49 ?_))));refine zA ?_;have hNX:NumAt b1 x _:=⟨_,j,rfl,C⟩;have hNY:NumAt b2 y _:=⟨_,B,rfl,F⟩;refine rI (K1 (j7 E0 D.ext C.ext F.ext j.ext B.ext hNX.ext hNY.ext yB (zHo D) fun vi w2 E0 D C F j B hNX hNY I => ?_));subst I;refine ag (rS 305 ?_);refine zA (zA ?_);have M:(asked p=0/\∃ z,rcmp x y=some z/\rroom x y=true/\0<rcmpI x y/\some ((0,7):Int×Int)=some n)\/(asked p=0/\∃ z,rcmp x y=some z/\rroom x y=true/\¬ 0<rcmpI x y/\((own p).bind fun c=>(zJJ x c).bind fun a=>(zJJ y c).bind fun b=>some (a-b,(0:Int)))=some n)\/asked p=3\/asked p=8:=by
  rcases zFk p with e | e
  . rw [count,ct (by simp [e])] at h;obtain ⟨z,H,h⟩:=bind_some h;obtain ⟨G,rfl⟩:=zEA H;by_cases J:0<rcmpI x y
    . rw [cD J] at h;exact .inl ⟨e,_,H,G,J,h⟩
    . rw [ct J] at h;exact .inr (.inl ⟨e,_,H,G,J,h⟩)
  . exact .inr (.inr e)
 rcases M with ⟨e,M⟩ | ⟨e,M⟩ | e | e
 . obtain ⟨z,H,G,J,h⟩:=M;rw [e];obtain rfl:=dj h;refine rI (K8 rfl (mv (K2 (zW rfl hNX fun v14 N14=>K2 (zW rfl hNY fun v15 N15=>K2 (j7 E0 D.ext C.ext F.ext j.ext B.ext hNX.ext hNY.ext yB (zEI N14 N15 G) fun vi w2 E0 D C F j B hNX hNY I => ?_))))));subst I;refine K2 (zC rfl rfl rfl (pc0 rfl (rS 262449 ?_)));refine wct (cW Value.bool (cZ J)) (K6 (ag (rS 305 ?_)));refine zA (rJ (K8 rfl (rM 1048881 ?_)));refine wct rfl (rJ (ag (ag (rM 192 ?_))));exact zE (zU (zM ⟨rfl,_,zv rfl rfl rfl,E0,rfl⟩))
 . obtain ⟨z,H,G,J,h⟩:=M;rw [e];obtain ⟨c,X,h⟩:=bind_some h;obtain ⟨a,U,h⟩:=bind_some h;obtain ⟨b,V,h⟩:=bind_some h;obtain rfl:=dj h;refine rI (K8 rfl (mv (K2 (zW rfl hNX fun v14 N14=>K2 (zW rfl hNY fun v15 N15=>K2 (j7 E0 D.ext C.ext F.ext j.ext B.ext hNX.ext hNY.ext yB (zEI N14 N15 G) fun vi w2 E0 D C F j B hNX hNY I => ?_))))));subst I;refine K2 (zC rfl rfl rfl (pc0 rfl (rS 262449 ?_)));refine wcf (cW Value.bool (cU J)) (sk (zA (rJ (K8 rfl (rM 1048881 ?_)))));refine wcf rfl (sk (zA (zAe [[0],[1],[8],[10],[5,3,1],[1],[]] mixed kR fun K hK=>dM aL (dcp (fun v w'=>zBd w' v c) (fun _ _ _ _ C h=>h.ext C.toExt) (fun σ wx hE hk=>zJ yB (CallK.of_ret (zTx (IsPoly.of_eq hk.1 (D.ext hE)) X) fun v w2 O I=>⟨O,I⟩) rfl) (dc (fun hE hk=>zW hk.1 (hNX.ext hE) fun _=>eX) (dc (fun hE hk=>zW hk.1 (hNY.ext hE) fun _=>eX) ?_))))));refine du (u := .int .i64 (a-b)) (fun hE hk=>(by have hl:=hk.1.len;have hba:=zJK U;have hbb:=zJK V;exact zJ yB (CallK.of_ret (between_ok hk.1 hk.2.1 hk.2.2.1 U V) fun v w2 O I=>⟨O,by rw [I,zm oM oM]⟩) rfl)) ?_;refine dA aL (du (fun hE hk=>zr eR) (zAJ (hK _ fun wq hE => ?_)));rintro _ rfl v23 N23 v24 N24 v25 N25 v26 N26 v6 Y _ rfl;refine zY ?_
   obtain ⟨E0,D,C,F,j,B⟩:=V5 hE E0 D.ext C.ext F.ext j.ext B.ext;refine zK (K5 [6,7] ?_);refine zE (zM ?_);exact ⟨rfl,_,zv rfl rfl rfl,E0,by subst Y;rfl⟩
 . rw [e];rw [count,cD (by simp [e]),e] at h;obtain rfl:=dj h;refine rI (K8 rfl (mv (K3 (K3 (K3 (K3 (pc0 rfl (rS 262449 ?_))))))));refine wcf rfl (sk (zA (rJ (K8 rfl (rM 1048881 ?_)))));refine wct rfl (rJ (ag (ag (rM 192 ?_))));exact zE (zU (zM ⟨rfl,_,zv rfl rfl rfl,E0,rfl⟩))
 . rw [e];rw [count,cD (by simp [e]),e] at h;obtain rfl:=dj h;refine rI (K8 rfl (mv (K3 (K3 (K3 (K3 (pc0 rfl (rS 262449 ?_))))))));refine wcf rfl (sk (zA (rJ (K8 rfl (rM 1048881 ?_)))));refine wct rfl (rJ (ag (ag (rM 192 ?_))));exact zE (zU (zM ⟨rfl,_,zv rfl rfl rfl,E0,rfl⟩))
theorem zCX {T:Int} (e:IsPoly w v p) (h:times p=some T):Ret prog 169 #[v] w (fun r _=>r = .int .i64 T /\ -40000000<=T/\T<=40000000):=by
 have Q:=e.len;unfold times at h;refine J0 24 func169 rfl (rj (ag (rM 1 ?_)));refine rj (ag (rM 9 ?_));refine zA (zF (zX (X:=Nat) (fun f ρ w'=>∃ B P n,Keep ρ [(0,B),(3,.int .i64 n)]/\IsPoly w' B P/\Ext w w'/\zJY f P n=some T/\f<=4097 /\ -(((4097-f:Nat):Int)*8192)<=n/\n<=((4097-f:Nat):Int)*8192) (fun f=>f) (p.length+1) ⟨v,p,0,(kp rfl),e,E0,h,oM,oM,oM⟩ ?_));rintro f ρ1 w1 ⟨B,P,n,J,e,E0,h,Y,U,V⟩;refine wpe_k _ J ?_;rcases f with _ | f
 . cases h
 unfold zJY at h;refine zA (rJ (K1 (j1 E0 e.ext yB (zCn e) fun I w2 E0 e j => ?_)));subst j;refine K8 rfl (rM 137 ?_);refine K0 rfl ?_ ?_<;>intro hc
 . have C:¬ (trim P).length<=1:=by have:=dh hc;omega
   rw [ct C] at h;obtain ⟨c,D,h⟩:=bind_some h;obtain ⟨d,M,h⟩:=bind_some h;obtain ⟨g,O,h⟩:=bind_some h;have b1 := @zDE true c;have b2 := @zDE false c;refine sk (zF (rJ (K1 (j1 E0 e.ext yB (zTx e D) fun v9 w2 E0 e hC => ?_))));have hCl:=hC.len;refine ag (rM 25 ?_);refine rJ (mv (K1 (j2 E0 e.ext hC.ext yB (zIg) fun v12 w2 E0 e hC j => ?_)));obtain ⟨Z,rfl,F⟩:=j;refine K1 (j2 E0 e.ext hC.ext yB (zEU hC F (zTw D)) fun I w2 E0 e hC j => ?_);subst j;refine mv (K1 (j2 E0 e.ext hC.ext yB (zIg) fun v12 w2 E0 e hC j => ?_));obtain ⟨m2,rfl,G⟩:=j;refine K1 (j2 E0 e.ext hC.ext yB (zEU hC G (zTw D)) fun I w2 E0 e hC j => ?_);subst j;refine K1 (zC (v := .int .i64 (zAv true c-zAv false c)) rfl rfl (sI (zm oM oM)) (K1 (zC (v := .int .i64 (n+(zAv true c-zAv false c))) rfl rfl (sI (zm oM oM)) (ag (rM 9 ?_)))));exact rI (mv (K1 (j1 E0 e.ext yB (zDr e M) fun v21 w2 E0 e N21=>K1 (j0 E0 yB (zGI e N21.poly O) fun v22 w2 E0 H=>ag (rl (zN (zL (⟨rfl,f,⟨_,g,_,(kp rfl),H.poly,E0,h,oM,oM,oM⟩,oM⟩))))))))
 . have C:(trim P).length<=1:=by have:=de hc;omega
   rw [cD C] at h;obtain rfl:=dj h;refine zT (zt (zf (zI (zK (rJ (ag (rM 12 ?_)))))));exact zE (en rfl E0 ⟨rfl,oM,oM⟩)
theorem zBU (n:Int):(0<=n->0<=half2 n/\half2 n<=n)/\(n<=0->half2 n<=0/\n<=half2 n):=by
 unfold half2;refine ⟨fun h => ?_,fun h => ?_⟩
 . rw [fK h];omega
 . obtain ⟨m,rfl⟩:∃ m:Int,n = -m:=⟨-n,oM⟩;rw [Int.neg_tdiv,fK oM];omega
theorem zMa {R:Int×Int×Int} (Y:IsPoly w v p) (h:routh p=some R):Ret prog 72 #[v] w (fun r _=>r = .tuple #[.int .i64 R.1,.int .i64 R.2.1,.int .i64 R.2.2] /\ -1000000000<=R.1+R.2.1/\R.1+R.2.1<=1000000000):=by
 refine J0 76 func72 rfl (rj (ag (ag (ag (rM 1 ?_)))));refine zA (rJ (K1 (j1 E0 Y.ext yB (zHo Y) fun M w2 E0 Y F => ?_)));subst F;refine ag (rM 33 ?_);refine zA ?_;rcases zFk p with e | e | e
 . rw [e];rw [routh,ct (by simp [e])] at h;obtain ⟨RI,I,rfl⟩:=map_some h;unfold zJT at I;obtain ⟨⟨re,im⟩,h1,h⟩:=bind_some I;clear I;obtain ⟨g,h2,h⟩:=bind_some h;obtain ⟨D,h3,h⟩:=bind_some h;obtain ⟨B,h4,h⟩:=bind_some h;obtain ⟨C,h5,h⟩:=bind_some h;obtain ⟨c,Z,h⟩:=bind_some h;simp only at h1 h2 h3 h4 h5 Z h;obtain rfl:=dj h;refine rI (K8 rfl (rS 262177 ?_));refine wcf rfl (sk (rJ (K1 (j0 E0 yB (zBS Y) fun v22 w2 E0 N22 => ?_))));have N22:=N22.poly;refine K1 (j1 E0 N22.ext yB (zPm) fun v23 w2 E0 N22 N23 => ?_);have N23:=N23.poly;refine K1 (j0 E0 yB (along_ok N22 IsPoly.nil N23 h1) fun v24 w2 E0 F => ?_);obtain ⟨vr,M,rfl,G,H⟩:=F;refine mv (xt rfl (xt rfl (ag (ag (rM 192 ?_)))));refine rJ (mv (K1 (j2 E0 G.ext H.ext yB (zGI G H h2) fun v29 w2 E0 G H hG => ?_)));have hG:=hG.poly;refine ag (rM 448 ?_);refine rJ (K1 (j3 E0 G.ext H.ext hG.ext yB (zCX hG h3) fun M w2 E0 G H hG F => ?_));obtain ⟨rfl,an,ao⟩:=F;refine ag (rM 456 ?_);refine rJ (mv (K1 (j2 E0 H.ext hG.ext yB (zFn G hG h4) fun v34 w2 E0 H hG hR2 => ?_)));clear G;have G:=hR2.poly;refine mv (mv (K1 (j2 E0 G.ext hG.ext yB (zFn H hG h5) fun v37 w2 E0 G hG hI2 => ?_)));clear H;have H:=hI2.poly;refine ag (ag (rM 456 ?_));refine zA ?_;have I:=G;have hI0:=H;obtain ⟨rp,rc,rfl,-,-,ap⟩:=I;obtain ⟨ip,ic,rfl,-,-,aq⟩:=hI0
   refine rI (K1 (zG zAC rfl (mv (K1 (zG zAC rfl (K1 (zFd rfl rfl ?_)))))));have aa:(if (B.length:Int)<(C.length:Nat) then ((C.length:Nat):Int) else (B.length:Nat))=max ((B.length:Nat):Int) (C.length:Nat):=by split<;>omega
   rw [aa];refine K1 (zC (v := .int .i64 (max ((B.length:Nat):Int) (C.length:Nat)-1)) rfl rfl (sI (zm oM oM)) (ag (rS 968 ?_)));refine rJ (mv (ag (ag (ag (rM 8136 ?_)))));refine zA (rJ (K1 (zG zAC rfl (mv (K1 (zG zAC rfl (K8 rfl (rM 1125899906850760 ?_))))))));refine K0 rfl ?_ ?_<;>intro hc
   . have O:C.length<B.length:=by have h0:=dh hc;omega
     have Q:chain B C=some c:=by simpa [O] using Z
     have J:=(zEb Q).2;refine rI (mv (ag (ag (ag (rS 7944 ?_)))));refine rJ (mv (K1 (j1 E0 hG.ext yB (by first | exact zEs G H Q | exact zEs H G Q) fun v55 w2 E0 hG hC => ?_)));have hCl:=hC.len;have b1 := @zDE true c;have b2 := @zDE false c;refine ag (rM 13064 ?_);refine rJ (mv (K1 (j2 E0 hG.ext hC.ext yB (zIg) fun v12 w2 E0 hG hC F => ?_)));obtain ⟨m1,rfl,V⟩:=F;refine K1 (j2 E0 hG.ext hC.ext yB (zEU hC V J) fun M w2 E0 hG hC F => ?_);subst F;refine mv (K1 (j2 E0 hG.ext hC.ext yB (zIg) fun v12 w2 E0 hG hC F => ?_));obtain ⟨m2,rfl,X⟩:=F;refine K1 (j2 E0 hG.ext hC.ext yB (zEU hC X J) fun M w2 E0 hG hC F => ?_);subst F;refine K1 (zC (v := .int .i64 (zAv true c-zAv false c)) rfl rfl (sI (zm oM oM)) ?_);refine K1 (zC (v := .int .i64 ((if decide (C.length<B.length)=true then -1 else 1)*(zAv true c-zAv false c))) rfl rfl (by simp only [O,iM,iG,ew,ga,fY];exact cW (fun z=>some (Value.int .i64 z)) (zm oM oM)) ?_);refine ag (rM 17160 ?_);refine zA ?_;obtain ⟨j,U⟩:∃ t,(if decide (C.length<B.length)=true then -1 else 1)*(zAv true c-zAv false c)=t:=⟨_,rfl⟩
     have ab : -10000<=j/\j<=10000:=by rw [<- U];simp only [O,iM,iG,ew,ga,fY];omega
     rw [U];have ad:=zAV g;have hgl2:=hG.len;refine rI (K1 (j0 E0 yB (zCn hG) fun M w2 E0 F => ?_));subst F;refine mv (K1 (zC (v := .int .i64 (((trim g).length:Int)-1-D)) rfl rfl (sI (zm oM oM)) (K1 (zCI rfl rfl dE ?_))));rw [show IntKind.i64.wrap ((((trim g).length:Int)-1-D).tdiv 2)=half2 (((trim g).length:Int)-1-D) from zm (by have:=zBU (((trim g).length:Int)-1-D);unfold half2 at this;omega) (by have:=zBU (((trim g).length:Int)-1-D);unfold half2 at this;omega)];refine mv (mv (K1 (zC (v := .int .i64 (max ((B.length:Nat):Int) (C.length:Nat)-1-j)) rfl rfl (sI (zm oM oM)) (K1 (zCI rfl rfl dE ?_)))));rw [show IntKind.i64.wrap ((max ((B.length:Nat):Int) (C.length:Nat)-1-j).tdiv 2)=half2 (max ((B.length:Nat):Int) (C.length:Nat)-1-j) from zm (by have:=zBU (max ((B.length:Nat):Int) (C.length:Nat)-1-j);unfold half2 at this;omega) (by have:=zBU (max ((B.length:Nat):Int) (C.length:Nat)-1-j);unfold half2 at this;omega)];have q1:=zBU (((trim g).length:Int)-1-D);have q2:=zBU (max ((B.length:Nat):Int) (C.length:Nat)-1-j)
     refine K1 (zC (v := .int .i64 (half2 (((trim g).length:Int)-1-D)+half2 (max ((B.length:Nat):Int) (C.length:Nat)-1-j))) rfl rfl (sI (zm oM oM)) (mv (ag (ag (ag (rS 28 ?_))))));refine zE (zM ?_);exact ⟨rfl,_,zBu rfl rfl rfl rfl,E0,by rw [<- U];rfl,(by simp only;omega),(by simp only;omega)⟩
   . have O:¬ C.length<B.length:=by have h0:=de hc;omega
     have Q:chain C B=some c:=by simpa [O] using Z
     have J:=(zEb Q).2;refine sk (rJ (mv (K1 (j1 E0 hG.ext yB (by first | exact zEs G H Q | exact zEs H G Q) fun v55 w2 E0 hG hC => ?_))));have hCl:=hC.len;have b1 := @zDE true c;have b2 := @zDE false c;refine ag (rM 13064 ?_);refine rJ (mv (K1 (j2 E0 hG.ext hC.ext yB (zIg) fun v12 w2 E0 hG hC F => ?_)));obtain ⟨m1,rfl,V⟩:=F;refine K1 (j2 E0 hG.ext hC.ext yB (zEU hC V J) fun M w2 E0 hG hC F => ?_);subst F;refine mv (K1 (j2 E0 hG.ext hC.ext yB (zIg) fun v12 w2 E0 hG hC F => ?_));obtain ⟨m2,rfl,X⟩:=F;refine K1 (j2 E0 hG.ext hC.ext yB (zEU hC X J) fun M w2 E0 hG hC F => ?_);subst F;refine K1 (zC (v := .int .i64 (zAv true c-zAv false c)) rfl rfl (sI (zm oM oM)) ?_);refine K1 (zC (v := .int .i64 ((if decide (C.length<B.length)=true then -1 else 1)*(zAv true c-zAv false c))) rfl rfl (by simp only [O,iM,iG,ew,ga,fY];exact cW (fun z=>some (Value.int .i64 z)) (zm oM oM)) ?_);refine ag (rM 17160 ?_);refine zA ?_;obtain ⟨j,U⟩:∃ t,(if decide (C.length<B.length)=true then -1 else 1)*(zAv true c-zAv false c)=t:=⟨_,rfl⟩;have ab : -10000<=j/\j<=10000:=by rw [<- U];simp only [O,iM,iG,ew,ga,fY];omega
     rw [U];have ad:=zAV g;have hgl2:=hG.len;refine rI (K1 (j0 E0 yB (zCn hG) fun M w2 E0 F => ?_));subst F;refine mv (K1 (zC (v := .int .i64 (((trim g).length:Int)-1-D)) rfl rfl (sI (zm oM oM)) (K1 (zCI rfl rfl dE ?_))));rw [show IntKind.i64.wrap ((((trim g).length:Int)-1-D).tdiv 2)=half2 (((trim g).length:Int)-1-D) from zm (by have:=zBU (((trim g).length:Int)-1-D);unfold half2 at this;omega) (by have:=zBU (((trim g).length:Int)-1-D);unfold half2 at this;omega)];refine mv (mv (K1 (zC (v := .int .i64 (max ((B.length:Nat):Int) (C.length:Nat)-1-j)) rfl rfl (sI (zm oM oM)) (K1 (zCI rfl rfl dE ?_)))));rw [show IntKind.i64.wrap ((max ((B.length:Nat):Int) (C.length:Nat)-1-j).tdiv 2)=half2 (max ((B.length:Nat):Int) (C.length:Nat)-1-j) from zm (by have:=zBU (max ((B.length:Nat):Int) (C.length:Nat)-1-j);unfold half2 at this;omega) (by have:=zBU (max ((B.length:Nat):Int) (C.length:Nat)-1-j);unfold half2 at this;omega)];have q1:=zBU (((trim g).length:Int)-1-D);have q2:=zBU (max ((B.length:Nat):Int) (C.length:Nat)-1-j)
     refine K1 (zC (v := .int .i64 (half2 (((trim g).length:Int)-1-D)+half2 (max ((B.length:Nat):Int) (C.length:Nat)-1-j))) rfl rfl (sI (zm oM oM)) (mv (ag (ag (ag (rS 28 ?_))))));refine zE (zM ?_);exact ⟨rfl,_,zBu rfl rfl rfl rfl,E0,by rw [<- U];rfl,(by simp only;omega),(by simp only;omega)⟩
 . rw [e];rw [routh,cD (by simp [e]),e] at h;obtain rfl:=dj h;refine rI (K8 rfl (rS 262177 ?_));refine wct rfl (rJ (ag (ag (ag (rM 28 ?_)))));refine zE (zU (zM ?_));exact ⟨rfl,_,zBu rfl rfl rfl rfl,E0,rfl,(by show (-1000000000:Int)<=0+0;decide),(by show (0+0:Int)<=1000000000;decide)⟩
 . rw [e];rw [routh,cD (by simp [e]),e] at h;obtain rfl:=dj h;refine rI (K8 rfl (rS 262177 ?_));refine wct rfl (rJ (ag (ag (ag (rM 28 ?_)))));refine zE (zU (zM ?_));exact ⟨rfl,_,zBu rfl rfl rfl rfl,E0,rfl,(by show (-1000000000:Int)<=0+0;decide),(by show (0+0:Int)<=1000000000;decide)⟩
variable {L:List Poly}
theorem zQN (I:IsPoly w v p) (h:asked p=0->parts p=some L):Ret prog 177 #[v] w (fun r w'=>∃ u,r = .tuple #[u,.int .i64 (asked p)]/\(asked p=0->zBd w' u L)):=by
 refine J0 51 func177 rfl (rj (ag (ag (rM 1 ?_))));refine zA (rJ (K1 (j1 E0 I.ext yB (zHo I) fun vi w2 E0 I J => ?_)));subst J;refine ag (rM 17 ?_);refine zA ?_;rcases zFk p with e | e | e
 . rw [e];have h:=h e;unfold parts at h;obtain ⟨p2,O,h⟩:=bind_some h;obtain ⟨d,Q,h⟩:=bind_some h;obtain ⟨g,U,h⟩:=bind_some h;obtain ⟨b,V,h⟩:=bind_some h;obtain ⟨c,Y,h⟩:=bind_some h;refine rI (K8 rfl (rS 32785 ?_));refine wcf rfl (sk (rj (ag (rM 33 ?_))));refine rJ (K1 (j0 E0 yB (zDQ I O) fun v18 w2 E0 N18 => ?_));have N18:=N18.poly;have hpl:=N18.len;refine ag (rM 33 ?_);refine rJ (K1 (j1 E0 N18.ext yB (zDr N18 Q) fun v20 w2 E0 N18 N20 => ?_));have N20:=N20.poly;refine ag (rM 97 ?_);refine rJ (mv (K1 (j2 E0 N18.ext N20.ext yB (zGI N18 N20 U) fun v23 w2 E0 N18 N20 N23 => ?_)));have N23:=N23.poly;refine ag (rM 225 ?_);refine rJ (mv (K1 (j2 E0 N20.ext N23.ext yB (zFn N18 N23 V) fun v26 w2 E0 N20 N23 N26 => ?_)));have N26:=N26.poly;refine mv (mv (K1 (j1 E0 N26.ext yB (zFn N20 N23 Y) fun v29 w2 E0 N26 N29 => ?_)));have N29:=N29.poly;refine ag (ag (rM 800 ?_));refine zA (zF ?_);refine zX (X:=Nat) (fun f ρ w'=>∃ va vb vc A B C,Keep ρ [(5,va),(8,vb),(9,vc)]/\AccC w.heap.size w' va A/\IsPoly w' vb B/\IsPoly w' vc C/\Ext w w'/\(∃ M,zRE f B C=some M/\A++M=L)/\A.length+f<=4097) (fun f=>f) (p2.length+1) ⟨_,_,_,[],b,c,(kp rfl),AccC.nil,N26,N29,E0,⟨_,h,rfl⟩,by simp;omega⟩ ?_;rintro f ρ1 w1 ⟨va,vb,vc,A,B,C,hk,G,F,H,E0,⟨M,h,Z⟩,hAl⟩;refine wpe_k _ hk ?_;rcases f with _ | f
   . cases h
   unfold zRE at h;refine zA (rJ (K1 (j3 E0 G.ext F.ext H.ext yB (zCn F) fun vi w2 E0 G F H J => ?_)));subst J;refine K8 rfl (rm [5,8,9,32] ?_);refine K0 rfl ?_ ?_<;>intro hc
   . have h0:¬ (trim B).length<=1:=by have:=dh hc;omega
     rw [ct h0] at h;obtain ⟨d2,O,h⟩:=bind_some h;obtain ⟨ad,Q,h⟩:=bind_some h;obtain ⟨part,U,h⟩:=bind_some h;obtain ⟨b2,V,h⟩:=bind_some h;obtain ⟨c2,Y,h⟩:=bind_some h;obtain ⟨M2,ab,rfl⟩:=map_some h;refine sk (zF (rJ (mv (K1 (j3 E0 G.ext F.ext H.ext yB (zDr F O) fun v35 w2 E0 G F H N35 => ?_)))));have N35:=N35.poly;refine K1 (j2 E0 G.ext F.ext yB (zHP H N35 Q) fun v36 w2 E0 G F j => ?_);have j:=j.poly;refine ag (rM 1312 ?_);refine rJ (mv (K1 (j3 E0 G.ext F.ext j.ext yB (zGI F j U) fun v39 w2 E0 G F j D => ?_)));have D:=D.poly;refine ag (rM 3360 ?_);refine rJ (mv ?_);refine K1 (zi (cs:=[v39]) zFy info25' dE dE (by obtain ⟨pp,pc,rfl,-⟩:=D;kernel_rfl) fun bb w10 hb hE hBb hs => ?_);obtain ⟨E0,G,F,j,D⟩:=V4 hE E0 G.ext F.ext j.ext D.ext;refine K1 (zGA G rfl hBb D oM E0.size fun va2 w11 hX hA2 => ?_);replace E0:=hX.ext (cX _) E0;replace F:=F.keep hX.keep;replace j:=j.keep hX.keep;replace D:=D.keep hX.keep;refine ag (rM 3360 ?_);refine rI (mv (K1 (j3 E0 hA2.ext j.ext D.ext yB (zFn F D V) fun v46 w2 E0 hA2 j D N46 => ?_)));have N46:=N46.poly;refine mv (mv (K1 (j2 E0 hA2.ext N46.ext yB (zFn j D Y) fun v49 w2 E0 hA2 N46 N49 => ?_)));have N49:=N49.poly;refine ag (ag (rl (zN (zL ?_))))
     exact ⟨rfl,f,⟨_,_,_,_,b2,c2,(kp rfl),hA2,N46,N49,E0,⟨M2,ab,by rw [dU];exact Z⟩,by rw [dN];simp;omega⟩,oM⟩
   . have h0:(trim B).length<=1:=by have:=de hc;omega
     rw [cD h0] at h;obtain rfl:=dj h;rw [fu] at Z;subst Z;refine zT (zt (zf (zI (zK (rJ (ag (ag (rM 12 ?_))))))));exact zE (zM ⟨rfl,_,zv rfl rfl rfl,E0,_,rfl,fun _=>G.chain oM⟩)
 . rw [e];refine rI (K8 rfl (rS 32785 ?_));refine wct rfl (rJ (ag (ag (rM 12 ?_))));exact zE (zU (zM ⟨rfl,_,zv rfl rfl rfl,E0,_,rfl,fun h=>by simp at h⟩))
 . rw [e];refine rI (K8 rfl (rS 32785 ?_));refine wct rfl (rJ (ag (ag (rM 12 ?_))));exact zE (zU (zM ⟨rfl,_,zv rfl rfl rfl,E0,_,rfl,fun h=>by simp at h⟩))
variable {a bx k n:Nat}
def zKS (n:Int) (e:Nat->Option Rat):Option (Poly×Int):=if n<0\/20<n then some ([],7) else (zTp n.toNat e).map fun l=>(l,0)
theorem quot_nat (h:a<1000000) (j:b<1000000) (e:rroom (a:Rat) (b:Rat)=true):Ret prog 96 #[.int .i64 (a:Int),.int .i64 (b:Int)] w (fun r w'=>IsNum w' r ((a:Rat)/(b:Rat))) :=
 zLC (a:=(a:Int)) (b:=(b:Int)) oM oM oM oM e
theorem zHF {e:Nat->Option Rat}:∀ {k:Nat} {O R:Poly},zIj e k O=some R->R.length=O.length
 | 0,O,R,h=>by cases h;rfl
 | k+1,O,R,h=>by
  unfold zIj at h;obtain ⟨c,_,h⟩:=bind_some h;obtain ⟨x,_,h⟩:=bind_some h;simpa using zHF h
theorem flong_ok (e:IsPoly w v p):Ret prog 79 #[v] w (fun u _=>u = .bool (longP p)):=by
 refine J0 6 func79 rfl (rj (ag (rM 1 ?_)));refine rJ (K1 (j0 E0 yB (zCn e) fun j w2 E0 h => ?_));subst h;refine K8 rfl (ag (rM 4 ?_));exact zE (en rfl E0 (cW Value.bool (fR.2 oM)))
theorem fasked_ok (j:IsPoly w v p):Ret prog 67 #[v] w (fun u _=>u = .int .i64 (asked p)):=by
 refine J0 10 func67 rfl (rj (ag (rM 1 ?_)));refine zA (zF (rJ (K1 (j1 E0 j.ext yB (flong_ok j) fun D w2 E0 j B => ?_))));subst B;refine ag (rM 9 ?_);refine K0 rfl ?_ ?_<;>intro hc
 . have h:41<(trim p).length:=dh (show longP p=true from hc);refine rj (ag (rM 4 ?_));refine zE (zd (zU (zM ?_)));exact ⟨rfl,_,zZ rfl rfl,E0,by rw [asked,cD h];rfl⟩
 . have h:¬ 41<(trim p).length:=de (show longP p=false from hc);refine rJ (K1 (j0 E0 yB (zCn j) fun D w2 E0 B => ?_));subst B;refine K8 rfl (ag (rm [6] ?_));refine K0 rfl ?_ ?_<;>intro hc
   . have C:trim p=[]:=ef (by have:=dh hc;omega);refine rj (ag (rM 4 ?_));refine zE (zd (zU (zM ?_)));exact ⟨rfl,_,zZ rfl rfl,E0,by rw [asked,ct h,cD C];rfl⟩
   . have C:trim p≠[]:=fun e=>by rw [e] at hc;cases hc
     refine zw (zN (zK (rj (ag (rM 4 ?_)))));refine zE (zM ?_);exact ⟨rfl,_,zZ rfl rfl,E0,by rw [asked,ct h,ct C];rfl⟩
theorem family_ok {n:Int} {cap:Value} {D:Nat->Option Rat} {R:Poly×Int} (hf:zBA prog f) (h:zKS n D=some R) (Q:∀ (k:Nat) (x:Rat),n<=20->(k:Int)<n->D k=some x->∀ w',Ext w w'->Ret prog f #[.int .i64 (k:Int),cap] w' (fun u w2=>IsNum w2 u x)):Ret prog 94 #[.int .i64 n,.func (.func f) #[] #[cap]] w (fun r w'=>∃ u,r = .tuple #[u,.int .i64 R.2]/\IsOwn w.heap.size w' u R.1):=by
 refine J0 40 func94 rfl (rj (ag (ag (rM 3 ?_))));refine zA (zA ?_);rcases (show n<0\/(¬ n<0/\20<n)\/∃ m:Nat,n=m/\m<=20 from by by_cases F:n<0;exact .inl F;by_cases U:20<n;exact .inr (.inl ⟨F,U⟩);exact .inr (.inr ⟨n.toNat,oM,oM⟩)) with F | ⟨F,U⟩ | ⟨m,rfl,hm⟩
 . rw [zKS,cD (.inl F)] at h;obtain rfl:=dj h;refine rI (K1 (zC (v := .bool true) rfl rfl (sB (cZ F)) (mv (K3 (K3 (pc0 rfl (rS 8195 ?_)))))));refine wct rfl (rj (ag (ag (rM 50 ?_))));exact zE (zU (zM ⟨rfl,_,zv rfl rfl rfl,E0,_,rfl,IsOwn.nil⟩))
 . rw [zKS,cD (.inr U)] at h;obtain rfl:=dj h;refine rI (K1 (zC (v := .bool false) rfl rfl (sB (cU F)) (mv (K7 (K2 (zC (v := .bool true) rfl rfl (sB (cZ U)) (pc0 rfl (rS 8195 ?_))))))));refine wct rfl (rj (ag (ag (rM 50 ?_))));exact zE (zU (zM ⟨rfl,_,zv rfl rfl rfl,E0,_,rfl,IsOwn.nil⟩))
 . rw [zKS,ct oM,fS] at h;obtain ⟨R,V,rfl⟩:=map_some h;unfold zTp at V;have hRl:R.length=m+1:=by rw [zHF V];simp
   refine rI (K1 (zC (v := .bool false) rfl rfl (sB (cU oM)) (mv (K7 (K2 (zC (v := .bool false) rfl rfl (sB (cU oM)) (pc0 rfl (rS 8195 ?_))))))));refine wcf rfl (sk (rJ (K1 (zg (b:=1) (m+1) rfl rfl rfl oM ?_))));refine K1 (zAK zAs zFT rfl rfl rfl oM oM oM fun I w1 ad C hB hs => ?_);have J:w.heap.size<=I:=dS ad.symm;replace E0:=E0.trans C;rw [show ((m+1:Nat):Int).toNat=m+1 from by omega] at hB ⊢;have B:=PBlk.zeros hB;refine ag (rM 67 ?_);refine rJ (mv (K1 (j1 E0 B.ext yB (fone_ok) fun v19 w2 E0 B N19=>K1 (zCV (ix:=m) rfl rfl oM (K1 (zBE (k:=m) rfl rfl N19 B sM fun v w2 Y Z => ?_))))));replace E0:=E0.upd Y J;clear B;have B:=Z;refine rM 67 ?_;refine zA (rJ (K1 (zC (v := .int .i64 ((m:Int)-1)) rfl rfl (sI (zm oM oM)) (ag (rM 194 ?_)))));refine zF (zX (X:=Nat) (fun k ρ w'=>Keep ρ [(1,.func (.func f) #[] #[cap]),(6,.slice (some ⟨I,0,none⟩) (m+1) (m+1)),(7,.int .i64 (((k:Nat):Int)-1))]/\k<=m/\Ext w w'/\∃ O,O.length=m+1/\PBlk w' I O/\zIj D k O=some R) (fun k=>k) m ⟨(kp rfl),cX _,E0,_,sM,B,V⟩ ?_);rintro k ρ1 w1 ⟨e,ap,E0,O,ae,B,M⟩;refine wpe_k _ e ?_;refine zA (zA ?_);rcases k with _ | j
   . obtain rfl:=dj M;refine rI (K8 rfl (rS 16777410 ?_));refine wcf vF (zT (zt (zf (zI (zK (rJ (ag (ag (rM 242 ?_)))))))));refine zE (zM ?_);exact ⟨rfl,_,zv rfl rfl rfl,E0,_,rfl,some ⟨I,0,none⟩,m+1,by rw [hRl];rfl,(by show O.length<=_;omega),B.rd,(by show O.length<=_;omega),fun _=>⟨I,rfl,J⟩⟩
   . have ah:((j+1:Nat):Int)-1=(j:Int):=by omega
     have ai:IntKind.i64.wrap ((j:Int)-1)=(j:Int)-1:=zm oM oM;rw [ah];unfold zIj at M;obtain ⟨c,aj,M⟩:=bind_some M;obtain ⟨x,ak,M⟩:=bind_some M;obtain ⟨al,rfl⟩:=zEB ak;refine rI (K8 rfl (rS 16777410 ?_));refine wct vT (sk (zA (zF ?_)));have hnw:NoW [I] _:=noWP B;refine zAy true [⟨12,I,fun w=>PBlk w I (O),fun w=>PBlk w I (O.set j (O.getD (j+1) 0*c))⟩] [[12],[14],[12],[14],[1],[5,1],[1],[2],[14],[3,1],[7,1],[21,19],[1,3]] mixed kR sM (all1 (zJr B)) fun K hK=>dbv rfl (fun σ G C H e=>zAH ⟨Ext.refl _,e.1⟩) (dbv rfl (fun σ G C H e=>zAH ⟨Ext.refl _,e.1⟩) (dbv rfl (fun σ G C H e=>zAH ⟨Ext.refl _,e.1⟩) (dbv rfl (fun σ G C H e=>zAH ⟨Ext.refl _,e.1⟩) (dbv rfl (fun σ G C H e=>zg (b:=1) (j+1) e.1 rfl rfl oM ⟨Ext.refl _,rfl⟩) (dbn (fun v _=>v = .pointer (some ⟨I,3*(j+1),none⟩)) rfl (fun _ _ _ _ _ h=>h) (fun σ G C H e=>zCV e.1 e.2.1 oM ⟨Ext.refl _,rfl⟩) ?_)))));refine dbn (fun v w'=>IsNum w' v (O.getD (j+1) 0)) rfl (fun _ _ _ F hx h=>h.extS hx (hnw.ext F)) (fun σ G C H e=>zCH e.1 rfl (H _ (dI.2 rfl) (.inl ⟨rfl,by show _<(12:Nat);decide⟩)) oM fun v h=>⟨Ext.refl _,h⟩) ?_
     refine dbv rfl (fun σ G C H e=>zAH ⟨Ext.refl _,e.1⟩) (dbv rfl (fun σ G C H e=>zAH ⟨Ext.refl _,e.1⟩) (dbn (fun v w'=>IsNum w' v c) rfl (fun _ _ _ F hx h=>h.extS hx (hnw.ext F)) (fun σ G C H e=>zCi e.1 hf (CallK.eq2 e.2.1 rfl (CallK.of_ret (Q j c oM oM aj G (E0.updS C J)) fun v w2 hX hr=>⟨hX,hr⟩))) (dbn (fun v w'=>IsNum w' v (O.getD (j+1) 0*c)) rfl (fun _ _ _ F hx h=>h.extS hx (hnw.ext F)) (fun σ G C H e=>zJ yB (CallK.of_ret (Mul_ok e.1 e.2.1 al) fun v w2 hX hr=>⟨hX,hr⟩) rfl) (dbn (fun v _=>v = .pointer (some ⟨I,3*j,none⟩)) rfl (fun _ _ _ _ _ h=>h) (fun σ G C H e=>zCV e.1 e.2.1 oM ⟨Ext.refl _,rfl⟩) (dss _ rfl (fun σ G C hpre e=>zBE e.1 rfl e.2.1 hpre oM fun v w2 Y Z=>⟨Y,Z⟩) (zAJ (hK _ fun wq hS hP => ?_)))))));rintro _ rfl _ rfl _ rfl _ rfl _ rfl v32 N32 v33 N33 _ rfl _ rfl v36 N36 v37 N37 v38 N38 _ _;refine zY ?_;obtain ⟨am,-⟩:=hP;replace E0:=E0.updS hS J;clear B;have B:=am;refine zN (zK (K5 [1,6,7] ?_));exact rI (K8 rfl (ag (rl (zL (⟨rfl,j,⟨⟨rfl,rfl,rfl,rfl,rfl,cW (Value.int .i64) ai,trivial⟩,oM,E0,_,by simp [ae],B,M⟩,oM⟩)))))
theorem Bessel1_ok (G:n<=20) (H:k<n) (j:Blk w bx 3 [.int .i64 (n:Int)]) (h:rdiv (((2*n-k)*(k+1):Nat):Rat) ((2*(n-k):Nat):Rat)=some x):Ret prog 95 #[.int .i64 (k:Int),.pointer (some ⟨bx,0,none⟩)] w (fun r w'=>IsNum w' r x):=by
 have e:(2*n-k)*(k+1)<1000000:=eN (fs (oM:2*n-k<=40) (oM:k+1<=20)) dE;refine J0 16 func95 rfl (rj ?_);refine K1 (zR zAt (Z0 E0 fun b1 w1 E0 hgb1 hB1=>rM 11 ?_));refine zA ?_;obtain ⟨B,rfl⟩:=zFb h;replace j:=j.ext E0;refine K6 (K1 (zD zAT rfl j rfl (K1 (zBw (a:=2) (2*n) rfl rfl rfl oM (mv (K1 (zAL (2*n-k) rfl rfl oM oM (mv (K1 (zg (b:=1) (k+1) rfl rfl rfl oM (K1 (zBw ((2*n-k)*(k+1)) rfl rfl rfl (is e dE) (K1 (zD zAT rfl j rfl (mv (K1 (zAL (n-k) rfl rfl oM oM (K1 (zBw (a:=2) (2*(n-k)) rfl rfl rfl oM (K1 (j1 E0 hB1.ext yB (quot_nat e oM B) fun v15 w2 E0 hB1 N15=>K1 (zO rfl N15 (Cell3.of hB1 rfl) fun _ w9 hU hN => ?_))))))))))))))))))))));replace E0:=E0.upd hU hgb1;obtain ⟨cs,C,D,F⟩:=hN;refine rS 8 ?_;exact zE (zM ⟨rfl,_,zq rfl rfl rfl zAI C D,E0,F⟩)
def zPZ (n:Int):Option (Poly×Int):=zKS n (fun k=>rdiv (((2*n.toNat-k)*(k+1):Nat):Rat) ((2*(n.toNat-k):Nat):Rat))
theorem Bessel_ok {n:Int} {R:Poly×Int} (h:zPZ n=some R):Ret prog 32 #[.int .i64 n] w (fun r w'=>∃ u,r = .tuple #[u,.int .i64 R.2]/\IsOwn w.heap.size w' u R.1):=by
 unfold zPZ at h;have E0:Ext w w:=Ext.refl w;refine J0 9 func32 rfl (rj ?_);refine K1 (zn (Z0 E0 fun b1 w1 E0 hgb1 hB1=>ag (ag (rM 2 ?_))));refine rj (K1 (zD zAT rfl hB1 rfl (K1 (zCj (K1 (zJ yB (CallK.of_ret (family_ok yB h fun k x hn hk hx w2 hE => ?_) fun v6 w2 hE hr => ?_) rfl))))))
 . obtain ⟨m,rfl⟩:∃ m:Nat,n=m:=⟨n.toNat,oM⟩;exact Bessel1_ok (n:=m) oM oM (hB1.ext hE) hx
 obtain ⟨u,rfl,j⟩:=hr;have e:=E0.size;replace E0:=E0.trans hE;refine xt rfl (xt rfl (ag (ag (rM 12 ?_))));exact zE (zM ⟨rfl,_,zv rfl rfl rfl,E0,_,rfl,j.sz e⟩)
end Go.Proofs.YtjiendlfobjanaaGreatDoor
namespace Go.Proofs.YtjiendlfobjanaaGreatDoor
open Go Go.RowKit Go.Proofs Tryz
variable {A l:List Rat} {K:Value->World->Prop} {af:Array Edge} {b2 sz':Nat} {c2 u v:Value} {g:Option (Nat×Bool)} {pos:String} {r:Option Nat} {ty:TypeId} {w w' w0:World} {σ:Operand->Value}
def AppY (u v:Value) (w w':World):Prop:=(Ext w w'/\∃ l c,v = .slice (some ⟨w.heap.size,0,none⟩) l c)\/∃ b l c e h cs,u = .slice (some ⟨b,0,none⟩) l c/\v = .slice (some ⟨b,0,none⟩) e h/\Blk w b 37 cs/\Upd b w w'
theorem runs_append_numY {d:Option Tmp} {x y:Operand} {sz:Nat} {q:Rat} {B C:Value}
 (hx:AccP sz w (σ x) A) (hy:σ y = .slice (some ⟨b2,0,none⟩) 1 1) (Y:Blk w b2 37 [B,c2,C]) (hq:IsNum w (.agg #[B,c2,C]) q) (hA:A.length<4096) (Z:sz<=w.heap.size)
 (hk:∀ v w',AppY (σ x) v w w'->AccP sz w' v (A++[q])->K v w') :
 Runs prog r ⟨d,.call { callee := .builtin .append,args := #[x,y],argTypes := #[25,25] },ty,pos,af,g⟩ σ w K:=by
 obtain ⟨p,c,M,h2,h3⟩:=hx;have hq0:=hq;have hcells:Cells w (some ⟨b2,0,none⟩) 37 [B,c2,C]:=Cells.blk Y;have hok:[B,c2,C].all zDT=true:=by
  obtain ⟨n,dd,he,hn,hd⟩:=hq;obtain ⟨p1,az,k1,rfl,-⟩:=hn;obtain ⟨p2,aA,k2,rfl,-⟩:=hd;cases he;rfl
 have G:∀ (w':World) (b h:Nat) (cs':List Value),sz<=b->A.length+1<=h->Blk w' b 37 cs'->cs'.length=3*h->(∀ i,i<A.length->IsNum w' (.agg ((cs'.drop (3*i)).take 3).toArray) (A.getD i 0))->((cs'.drop (3*A.length)).take 3=[B,c2,C])->IsNum w' (.agg #[B,c2,C]) q ->
  AccP sz w' (.slice (some ⟨b,0,none⟩) (A.length+1) h) (A++[q]):=fun w' b h cs' O Q g3 g4 g5 g6 g7=>by
  refine ⟨_,h,sM,by simpa using Q,.inr ⟨b,cs',rfl,O,g3,g4,fun i e => ?_⟩⟩;by_cases hi':i<A.length
  . rw [zEV hi'];exact g5 i hi'
  . have:i=A.length:=by simp at e;omega
    subst this;rw [g6,zEW];exact g7
 by_cases hc:A.length+1<=c
 . -- within the capacity
   rcases h3 with ⟨D,I,j⟩ | ⟨b,cs,D,I,j,e4,U⟩
   . omega
   . subst D;refine zAz (n:=3) zAs zAs zFT M hy j hcells rfl hc oM hok fun w' V hN=>hk _ w' ?_ ?_
     . exact .inr ⟨b,_,_,_,_,cs,M,rfl,j,V⟩
     . rw [dW,show A.length*3=3*A.length from by omega] at hN;refine G w' b c _ I hc hN (by rw [zAu];exact e4) (fun i e => ?_) ?_ (hq0.upd V j dE)
       . rw [zBb oM,ct oM];exact (U i e).upd V j dE
       . rw [zBb oM,cD rfl]
 . have am:=zAc (A.length+1) c;have hold:∃ old,Cells w p 37 old/\old.length=A.length*3/\∀ i,i<A.length->IsNum w (.agg ((old.drop (3*i)).take 3).toArray) (A.getD i 0):=by
    rcases h3 with ⟨D,I,j⟩ | ⟨b,cs,D,I,j,e4,U⟩
    . subst D;exact ⟨[],.inl rfl,rfl,fun i e=>by simp at e⟩
    . refine ⟨cs.take (A.length*3),.inr ⟨b,0,cs,D,j,sM⟩,by simp;omega,fun i e => ?_⟩;have:=U i e;rwa [show ((cs.take (A.length*3)).drop (3*i)).take 3=(cs.drop (3*i)).take 3 from by
       rw [gy,gM,dT oM]]
   obtain ⟨old,o1,o2,o3⟩:=hold;refine zAW zAs zAs zFT rfl dE M hy o1 o2 hcells rfl oM oM fun w' H h O X hB Q _=>hk _ w' ?_ ?_
   . exact .inl ⟨X,_,_,rfl⟩
   . have aa:H.length=(h-(A.length+1))*3:=by rw [Q];simp [Builtin.zeroCells,Value.cells]
     refine G w' _ h _ Z O hB (by simp [o2,aa];omega) (fun i e => ?_) ?_ (hq0.ext X)
     . rw [dU,zDK oM];exact (o3 i e).ext X
     . rw [dU,fA oM,eJ oM];simp
def zBs (u:Value) (w:World) (v:Value) (l:List Rat):Prop:=∃ p cap,v = .slice p l.length cap/\l.length<=cap/\PRd w p l/\l.length<=4096/\∀ b n c,u = .slice (some ⟨b,0,none⟩) n c->∀ a,p=some a->l≠[]->a.block≠b
theorem zBs.poly (h:zBs u w v l):IsPoly w v l:=by
 obtain ⟨p,c,e,j,B,C,_⟩:=h;exact ⟨p,c,e,j,B,C⟩
theorem zBs.ext (h:zBs u w v l) (e:Ext w w'):zBs u w' v l:=by
 obtain ⟨p,c,j,B,C,D,F⟩:=h;exact ⟨p,c,j,B,C.ext e,D,F⟩
theorem zBs.nil (h:IsPoly w v l):zBs (.slice none 0 0) w v l:=by
 obtain ⟨p,c,j,B,C,D⟩:=h;exact ⟨p,c,j,B,C,D,fun b n c e=>by cases e⟩
theorem zBs.app {D:Value} (h:zBs u w v l) (M:AppY u D w w'):zBs D w' v l:=by
 obtain ⟨p,c,F,G,j,H,I⟩:=h;rcases M with ⟨O,V,X,rfl⟩ | ⟨b,n,k,Y,k',cs,rfl,rfl,Q,U⟩
 . refine ⟨p,c,F,G,j.ext O,H,fun b n k e a B C => ?_⟩;obtain ⟨Z,J,e2⟩:=j.lt C;rw [B] at J;cases J;cases e;omega
 . refine ⟨p,c,F,G,j.upd U Q (I b n k rfl),H,fun b2 n2 k2 e a B C => ?_⟩;cases e;exact I b n k rfl a B C
theorem AccP.lt {sz:Nat} (h:AccP sz w v A):∀ b n c,v = .slice (some ⟨b,0,none⟩) n c->b<w.heap.size:=fun b n c e=>by
 obtain ⟨p,k,j,G,F⟩:=h;rcases F with ⟨B,C,D⟩ | ⟨H,cs,B,C,D,I,J⟩
 . rw [j,C] at e;cases e
 . rw [j,B] at e;cases e;exact D.lt
theorem IsOwn.off {sz:Nat} (h:IsOwn sz w v l) (B:AccP sz' w0 u A) (O:w0.heap.size<=sz):zBs u w v l:=by
 obtain ⟨p,c,C,D,F,G,H⟩:=h;refine ⟨p,c,C,D,F,G,fun b n k e a I J => ?_⟩;obtain ⟨M,j,Q⟩:=H J;have:=B.lt b n k e;rw [I] at j;cases j;show M≠b;omega
theorem AppY.ext {sz:Nat} (h:AppY u v w w') (F:AccP sz w u A) (J:w0.heap.size<=sz) (j:Ext w0 w):Ext w0 w':=by
 rcases h with ⟨h,_⟩ | ⟨b,l,c,M,O,cs,B,Q,U,G⟩
 . exact j.trans h
 . refine j.upd G ?_;obtain ⟨p,k,e,V,H⟩:=F;rcases H with ⟨C,D,I⟩ | ⟨X,cs',C,D,I,Y,Z⟩
   . rw [B,D] at e;cases e
   . rw [B,C] at e;cases e;omega
variable {b c i:Nat} {cs:List Value} {p:Poly} {w1 w2:World} {x y:Rat}
def zapL (P:Nat->Bool) (T:Poly) (i:Nat):Poly:=T.mapIdx fun k c=>if k<i/\P k=true then 0 else c
theorem zEq {P:Nat->Bool} {T:Poly}:(zapL P T i).length=T.length:=by unfold zapL;simp
theorem zPS {P:Nat->Bool} {T:Poly}:zapL P T 0=T:=by
 unfold zapL;apply gc sM;intro k e h;simp
theorem zTY {P:Nat->Bool} {T:Poly} (h:P i=false):zapL P T (i+1)=zapL P T i:=by
 unfold zapL;apply gc sM;intro k B C;simp only [gA];by_cases e:k=i
 . subst e;rw [ct (by simp [h]),ct (by simp [h])]
 . by_cases j:k<i/\P k=true
   . rw [cD j,cD ⟨oM,j.2⟩]
   . rw [ct j,ct (fun h=>j ⟨oM,h.2⟩)]
theorem zRs {P:Nat->Bool} {T:Poly} (h:P i=true):zapL P T (i+1)=(zapL P T i).set i 0:=by
 unfold zapL;apply gc sM;intro k B C;rw [List.getElem_set];simp only [gA];by_cases e:i=k
 . subst e;rw [cD rfl,cD ⟨oM,h⟩]
 . rw [ct e];by_cases j:k<i/\P k=true
   . rw [cD j,cD ⟨oM,j.2⟩]
   . rw [ct j,ct (fun h=>j ⟨oM,h.2⟩)]
theorem zRr {P:Nat->Bool} {T:Poly}:zapL P T T.length=T.mapIdx fun k c=>if P k=true then 0 else c:=by
 unfold zapL;apply gc sM;intro k j B;simp only [gA];have:k<T.length:=by simpa using j
 by_cases e:P k=true
 . rw [cD e,cD ⟨this,e⟩]
 . rw [ct e,ct (fun h=>e h.2)]
theorem zapL_fracA {T:Poly}:zapL (fun k=>decide ((T.length-1-k)%2≠0)) T T.length=fracA T:=by
 rw [zRr];unfold fracA;congr 1;funext k c;by_cases e:(T.length-1-k)%2=0<;>simp [e]
theorem zapL_fracB {T:Poly}:trim (zapL (fun k=>decide ((T.length-1-k)%2=0)) T T.length)=fracB T:=by
 rw [zRr];unfold fracB;congr 2;funext k c;by_cases e:(T.length-1-k)%2=0<;>simp [e]
theorem zDG {T:Poly}:(fracA T).length=T.length:=by unfold fracA;simp
theorem asked_zero (h:asked p=0):trim p≠[]/\(trim p).length<=41:=by
 unfold asked at h;split at h
 . cases h
 . split at h
   . cases h
   . exact ⟨by assumption,oM⟩
theorem Ext.ext {a b c:World} (h:Ext a b) (k:Ext b c):Ext a c:=h.trans k
theorem AppY.num {q:Rat} (h:AppY u v w w') (j:NumAt c q w) (e:∀ b n k,u = .slice (some ⟨b,0,none⟩) n k->b≠c):NumAt c q w':=by
 rcases h with ⟨h,_⟩ | ⟨b,l,B,H,G,cs,C,I,D,F⟩
 . exact j.ext h
 . exact j.upd F D (eH (e b l B C))
theorem zBs.updN (h:zBs u w v l) (j:Ext w w1) (B:Upd c w1 w2) (C:Blk w1 c 37 cs) (D:w.heap.size<=c):zBs u w2 v l:=by
 obtain ⟨p,k,F,G,e,H,I⟩:=h;exact ⟨p,k,F,G,(e.ext j).upd B C (e.ne D),H,I⟩
theorem AccP.updN {sz:Nat} (h:AccP sz w v A) (e:Ext w w1) (j:Upd c w1 w2) (B:Blk w1 c 37 cs) (C:w.heap.size<=c):AccP sz w2 v A :=
 (h.ext e).upd j B (h.new C)
theorem IsNum.pair {a1 a2 a3 b1 b2 e:Value} (h:Blk w b 37 [a1,a2,a3,b1,b2,e]) (j:IsNum w (.agg #[a1,a2,a3]) x) (B:IsNum w (.agg #[b1,b2,e]) y):IsPoly w (.slice (some ⟨b,0,none⟩) 2 2) [x,y] :=
 ⟨_,2,rfl,cX _,.inr ⟨b,0,_,rfl,h,sM,fun i C=>match i,C with
  | 0,_=>j
  | 1,_=>B⟩,sM⟩
end Go.Proofs.YtjiendlfobjanaaGreatDoor
namespace Go.Proofs.YtjiendlfobjanaaGreatDoor
open Go Go.RowKit Go.Proofs Tryz
set_option maxRecDepth 10000
set_option maxHeartbeats 2000000
attribute [local irreducible] Runs WPE CallK Ret
variable {p:Poly} {v:Value} {w:World}
theorem zHL {R:Poly×Int} (hp:IsPoly w v p) (h:zCf p=some R):Ret prog 16 #[v] w (fun r w'=>∃ u,r = .tuple #[u,.int .i64 R.2]/\IsOwn w.heap.size w' u R.1):=by
 have E0:Ext w w:=Ext.refl w;refine J0 82 func16 rfl (rj (ag (ag (rM 1 ?_))));refine zA (rJ (K1 (j1 E0 hp.ext yB (fasked_ok hp) fun vi w2 E0 hp hr => ?_)));subst hr;refine ag (rM 17 ?_);refine zA ?_;rcases zFk p with e | e | e
 . obtain ⟨J,aO⟩:=asked_zero e;unfold zCf at h;rw [ct (by rw [e];decide)] at h;obtain ⟨Fo,hF,rfl⟩:=map_some h;rw [e];clear e;refine rI (K8 rfl (rS 16401 ?_));refine wcf rfl (sk (rJ (K1 (j0 E0 yB (zBS hp) fun v17 w2 E0 N17 => ?_))));generalize trim p=T at J aO hF N17;have hTn:0<T.length:=eC.2 J;obtain ⟨tp,tc,rfl,aP,aQ,aR,bs⟩:=N17;have hTP:IsPoly _ (.slice tp T.length tc) T:=⟨tp,tc,rfl,aP,aQ,aR⟩;refine ag (rM 1 ?_);refine rJ (K1 (zG zAC rfl (K1 (zAL (b:=1) (T.length-1) rfl rfl oM oM (ag (rM 33 ?_))))));refine rj (mv ?_);have hsz:=E0.size;refine K1 (j1 E0 hTP.ext yB (zHi hTP) fun v22 w2 E0 hTP N22 => ?_);obtain ⟨xp,ac,rfl,aS,ah,-,ai⟩:=N22;obtain ⟨am,rfl,au⟩:=ai J;have hga:w.heap.size<=am:=dz hsz au;have C:=ah.blk J;clear hsz;refine mv ?_;have hsz:=E0.size;have hlt:=C.lt;refine K1 (j2 E0 hTP.ext C.ext yB (zHi hTP) fun v24 w2 E0 hTP C N24 => ?_);obtain ⟨xp,bc,rfl,aU,ah,-,ai⟩:=N24;obtain ⟨bb,rfl,av⟩:=ai J;have hgb:w.heap.size<=bb:=dz hsz av;have j:=ah.blk J;have hne:am≠bb:=by omega
   refine ag (ag (rM 225 ?_));refine zA (rJ (K1 (zG zAC rfl (mv (rM 201326816 ?_)))));refine zF ?_;refine zX (X:=Nat) (fun i ρ w'=>Keep ρ [(5,.int .i64 ((T.length-1:Nat):Int)),(6,.slice (some ⟨am,0,none⟩) T.length ac),(7,.slice (some ⟨bb,0,none⟩) T.length bc),(26,.int .i64 (T.length:Int)),(27,.int .i64 (i:Int))]/\i<=T.length/\Ext w w'/\PBlk w' am (zapL (fun k=>decide ((T.length-1-k)%2≠0)) T i)/\PBlk w' bb (zapL (fun k=>decide ((T.length-1-k)%2=0)) T i)) (fun i=>T.length-i) 0 ⟨(kp rfl),di _,E0,by rw [zPS];exact C,by rw [zPS];exact j⟩ ?_;rintro i aV w1 ⟨D,bt,E0,C,j⟩;refine wpe_k _ D ?_;refine rj (K8 rfl (rM 469762272 ?_));refine zA ?_;refine K0 rfl ?_ ?_<;>intro hc
   . have hi:i<T.length:=t_lt hc;refine sk (zA (zF (rJ (ag (rM 201327072 ?_)))));refine rJ (mv (K1 (zAL (T.length-1-i) rfl rfl oM oM (K1 (zAE (b:=2) ((T.length-1-i)%2) rfl rfl dE rfl (K8 rfl (rM 17381196256 ?_)))))));refine K0 rfl ?_ ?_<;>intro hc
     . have G:(T.length-1-i)%2=0:=by have:=gC hc;omega
       refine rI (mv (K1 (zV (cs := #[.bool false,.slice none 0 0,.slice none 0 0]) kR (K1 (zCV (ix:=i) rfl rfl hi ?_)))));refine K1 (zBE (k:=i) rfl rfl IsNum.zero j (by rw [zEq];exact hi) fun v w2 Z hN => ?_);replace E0:=E0.upd Z hgb;replace C:=(let ⟨cs,e1,_⟩:=j;C.upd Z e1 hne);clear j;have j:=hN;rw [<- zRs (by simp [G])] at j;rw [<- zTY (P:=(fun k=>decide ((T.length-1-k)%2≠0))) (T:=T) (i:=i) (by simp [G])] at C;refine rl (zN (zK (K5 [5,6,7,26,27] ?_)));exact K6 (K1 (zg (b:=1) (i+1) rfl rfl rfl oM (mv (rl (zL (⟨rfl,i+1,⟨(kp rfl),oM,E0,C,j⟩,oM⟩))))))
     . have G:(T.length-1-i)%2=1:=by have:=ne_of_beq_false hc;omega
       refine rI (mv (K1 (zV (cs := #[.bool false,.slice none 0 0,.slice none 0 0]) kR (K1 (zCV (ix:=i) rfl rfl hi ?_)))));refine K1 (zBE (k:=i) rfl rfl IsNum.zero C (by rw [zEq];exact hi) fun v w2 Z hN => ?_);replace E0:=E0.upd Z hga;replace j:=(let ⟨cs,e1,_⟩:=C;j.upd Z e1 (eH hne));clear C;have C:=hN;rw [<- zRs (by simp [G])] at C;rw [<- zTY (P:=(fun k=>decide ((T.length-1-k)%2=0))) (T:=T) (i:=i) (by simp [G])] at j;refine rl (zN (zK (K5 [5,6,7,26,27] ?_)));exact K6 (K1 (zg (b:=1) (i+1) rfl rfl rfl oM (mv (rl (zL (⟨rfl,i+1,⟨(kp rfl),oM,E0,C,j⟩,oM⟩))))))
   . obtain rfl:i=T.length:=by have:=f_lt hc;omega
     refine zT (zt (zf (zI (zK (rj (mv ?_))))));rw [zapL_fracA] at C;have aW:IsPoly _ (.slice (some ⟨bb,0,none⟩) T.length bc) (zapL (fun k=>decide ((T.length-1-k)%2=0)) T T.length):=⟨_,bc,by rw [zEq],by rw [zEq];exact aU,j.rd,by rw [zEq];omega⟩;have hAp:IsPoly _ (.slice (some ⟨am,0,none⟩) T.length ac) (fracA T):=⟨_,ac,by rw [zDG],by rw [zDG];exact aS,C.rd,by rw [zDG];omega⟩;refine K1 (j1 E0 hAp.ext yB (zBS aW) fun v45 w2 E0 hAp N45 => ?_);rw [zapL_fracB] at N45;have N45:=N45.poly;refine ag (rM 201326816 ?_);refine rj (ag (rM 201327328 ?_));refine zA (rJ (mv (rM 211106433860320 ?_)));refine zF ?_;refine zX (X:=Nat) (fun m ρ w'=>∃ va vb vo A B O,Keep ρ [(6,va),(7,vb),(9,vo),(46,.int .i64 ((T.length-1:Nat):Int)),(47,.int .i64 (O.length:Int))]/\zBs vo w' va A/\zBs vo w' vb B/\AccP w.heap.size w' vo O/\Ext w w'/\(∃ M,fracL m A B=some M/\Fo=M.map (O ++ ·))/\A.length=m+1/\O.length+m=T.length-1) (fun m=>m) (T.length-1) ⟨_,_,_,fracA T,fracB T,[],(kp rfl),zBs.nil hAp,zBs.nil N45,AccP.nil,E0,⟨Fo,hF,by cases Fo<;>rfl⟩,by rw [zDG];omega,sM⟩ ?_
     rintro m aV w1 ⟨va,vb,vo,A,B,O,D,C,j,H,E0,⟨M,I,U⟩,bu,bw⟩;refine wpe_k _ D ?_;have hX:Ext w1 w1:=Ext.refl w1;refine zA ?_;rcases m with _ | m
     . cases I;obtain rfl:Fo=some O:=by rw [U];simp
       refine K6 (K8 rfl (rs [6,7,9,46,47,48] ?_));refine zA (wcf vF (zT (zt (zf (zI (zK (rJ (ag (ag (rm [2,3,6,7,46,47] ?_))))))))));exact zE (zM ⟨rfl,_,zv rfl rfl rfl,E0,_,rfl,H.own oM⟩)
     . skip
       refine K6 (K8 rfl (rs [6,7,9,46,47,48] ?_));refine zA (wct vT (sk (zA (zF (zA (zA ?_))))));obtain ⟨bj,ao,rfl,aw,aj,aX,aY⟩:=C;have C:zBs vo w1 (.slice bj A.length ao) A:=⟨bj,ao,rfl,aw,aj,aX,aY⟩;obtain ⟨bp,ap,rfl,ax,ak,aZ,a0⟩:=j;have j:zBs vo w1 (.slice bp B.length ap) B:=⟨bp,ap,rfl,ax,ak,aZ,a0⟩;refine rI (K1 (zG zAC rfl (mv (K1 (zG zAC rfl (K1 (zAL (b:=1) (A.length-1) rfl rfl oM oM (K8 rfl (rs [6,7,9,46,47,54] ?_)))))))));refine K0 rfl ?_ ?_<;>intro hc
       . have ay:B.length+1≠A.length:=by have:=fO.1 hc;omega
         unfold fracL at I;rw [cD ay] at I;cases I;obtain rfl:Fo=none:=U;refine rj (ag (ag (rm [2,3,6,7,46,47] ?_)));exact zE (zU (zd (zU (zAP (zd (zU (zM ⟨rfl,_,zv rfl rfl rfl,E0,_,rfl,IsOwn.nil⟩)))))))
       . have bf:B.length+1=A.length:=by have:=fP.1 hc;omega
         unfold fracL at I;rw [ct oM] at I;obtain ⟨q,hq,I⟩:=bind_some I;obtain ⟨m1,a9,I⟩:=bind_some I;obtain ⟨c,ba,I⟩:=bind_some I;obtain ⟨M2,aa,rfl⟩:=map_some I;obtain ⟨ae,bd⟩:=zFb hq;replace U:Fo=M2.map ((O++[q]) ++ ·):=by rw [U];cases M2<;>simp
         refine sk (zA ?_);have be:=E0;refine zAR none 14 [[12],[12],[1],[1],[7,1],[1],[14],[14],[1],[1],[7,1],[1],[13,1],[]] mixed kR fun K hK=>dM aL (dM aL (du (fun F D=>zG zAC D.1 eR) (du (fun F D=>zAL (b:=1) (A.length-1) D.1 rfl oM oM eR) (du (fun F D=>runs_pindex (aj.ext F) D.1 D.2.1 oM eR) (dC (fun v w'=>IsNum w' v (top A)) (fun F D=>runs_pload (aj.ext F) oM D.1 fun _=>eX) (dM aL (dM aL (du (fun F D=>zG zAC D.1 eR) (du (fun F D=>zAL (b:=1) (B.length-1) D.1 rfl oM oM eR) (du (fun F D=>runs_pindex (ak.ext F) D.1 D.2.1 oM eR) (dC (fun v w'=>IsNum w' v (top B)) (fun F D=>runs_pload (ak.ext F) oM D.1 fun _=>eX) ?_)))))))))));refine dC (fun v w'=>IsNum w' v q) (fun F D=>zJ yB (CallK.of_ret (zHv D.1 D.2.1 ae) fun v w2 hX hr=>⟨hX,(by rw [bd];exact hr)⟩) rfl) ?_;refine dcp (fun v w'=>∃ b,v = .pointer (some ⟨b,0,none⟩)/\Blk w' b 37 [.bool false,.slice none 0 0,.slice none 0 0]/\w1.heap.size<=b) (fun _ _ _ _ hx h=>(let ⟨b,e,j,hg⟩:=h;⟨b,e,j.ext hx.toExt,hg⟩)) (fun σ wx F D=>zR zAt fun b w2 hb hX j hs=>⟨hX,b,rfl,j,(by rw [hb];exact F.size)⟩) ?_;refine zAJ (hK _ fun wq F => ?_);rintro _ rfl _ rfl _ rfl _ rfl v59 N59 v60 N60 _ rfl _ rfl _ rfl _ rfl v65 N65 v66 N66 v67 N67 v10 N10
         refine zY ?_;obtain ⟨E0,hX⟩:=V1 F E0 hX.ext;obtain ⟨gb,rfl,ab,ad⟩:=N10;have hg0:w.heap.size<=gb:=dz be.size ad;have hAn:=H.lt;refine K1 (zO rfl N67 (Cell3.of ab rfl) fun _ w9 Z Q => ?_);replace E0:=E0.upd Z hg0;replace C:=C.updN hX Z ab ad;replace j:=j.updN hX Z ab ad;replace H:=H.updN hX Z ab ad;refine zAh (zK (K5 [6,7,9,10,46,47] ?_));refine rJ (K1 (zW rfl Q fun v69 V => ?_));obtain ⟨aq,d69,rfl,az,aA⟩:=V;have V:IsNum _ (.agg #[.bool (decide (q<0)),aq,d69]) q:=⟨_,_,rfl,az,aA⟩;refine K1 (zi (cs:=[.bool (decide (q<0)),aq,d69]) zAs info37' dE dE kR fun sb w10 hb F hBb hs => ?_);obtain ⟨E0,C,j,H,V,Q⟩:=V5 F E0 C.ext j.ext H.ext V.ext Q.ext;refine K1 (runs_append_numY H rfl hBb V oM E0.size fun v71 w11 hY hO2 => ?_);replace E0:=hY.ext H (cX _) E0;replace C:=C.app hY;replace j:=j.app hY;replace Q:=hY.num Q (fun b n k e=>by have:=hAn b n k e;omega);clear H;have H:=hO2;refine ag (rm [6,7,9,10,46,47] ?_);refine rI (mv (mv (K1 (zV (cs := #[.bool false,.slice none 0 0,.slice none 0 0]) kR (K1 (zW rfl Q fun v76 Y => ?_))))));obtain ⟨ar,d76,rfl,aB,aC⟩:=Y
         have Y:IsNum _ (.agg #[.bool (decide (q<0)),ar,d76]) q:=⟨_,_,rfl,aB,aC⟩;refine K1 (zi (cs:=[.bool false,.slice none 0 0,.slice none 0 0,.bool (decide (q<0)),ar,d76]) zAs info37' dE dE kR fun sb w10 hb F hBb hs => ?_);obtain ⟨E0,C,j,H,Y⟩:=V4 F E0 C.ext j.ext H.ext Y.ext;have hL:=IsNum.pair hBb IsNum.zero Y;refine K1 (j3 E0 C.ext j.ext H.ext yB (zDi j.poly hL a9) fun v78 w2 E0 C j H N78 => ?_);have N78:=N78.poly;refine K1 (zJ yB (CallK.of_ret (zHP C.poly N78 ba) fun v79 w12 hE9 N79 => ?_) rfl);replace E0:=E0.trans hE9;replace j:=j.ext hE9;refine ag (ag (rl (zN (zK (K5 [6,7,9,46,47] ?_)))));refine K6 (K1 (zg (b:=1) (O.length+1) rfl rfl rfl oM (mv (rl (zL ?_)))));exact ⟨rfl,m,⟨_,_,_,B,c,O++[q],⟨rfl,rfl,rfl,rfl,rfl,rfl,rfl,rfl,rfl,cW (fun z:Nat=>Value.int .i64 (z:Int)) sM,trivial⟩,j,N79.off H (cX _),H.ext hE9,E0,⟨M2,aa,U⟩,oM,by simp;omega⟩,oM⟩
 . unfold zCf at h;rw [cD (by rw [e];decide),e] at h;obtain rfl:=dj h;rw [e];refine rI (K8 rfl (rS 16401 ?_));refine wct rfl (rJ (ag (ag (rM 12 ?_))));exact zE (zU (zM ⟨rfl,_,zv rfl rfl rfl,E0,_,rfl,IsOwn.nil⟩))
 . unfold zCf at h;rw [cD (by rw [e];decide),e] at h;obtain rfl:=dj h;rw [e];refine rI (K8 rfl (rS 16401 ?_));refine wct rfl (rJ (ag (ag (rM 12 ?_))));exact zE (zU (zM ⟨rfl,_,zv rfl rfl rfl,E0,_,rfl,IsOwn.nil⟩))
theorem zNo {R:Poly×Int} (j:IsPoly w v p) (h:zJN p=some R):Ret prog 17 #[v] w (fun r w'=>∃ u,r = .tuple #[u,.int .i64 R.2]/\IsOwn w.heap.size w' u R.1):=by
 have E0:Ext w w:=Ext.refl w;refine J0 26 func17 rfl (rj (ag (ag (rM 1 ?_))));refine zA ?_;unfold zJN at h;obtain ⟨e,D,h⟩:=bind_some h;refine rI (K1 (j1 E0 j.ext yB (zMa j D) fun vi w2 E0 j hr => ?_));obtain ⟨rfl,G,H⟩:=hr;refine mv (xt rfl (xt rfl (xt rfl (ag (ag (ag (rS 113 ?_)))))));refine zA (zF (rJ (K8 rfl (ag (rM 8305 ?_)))));refine K0 rfl ?_ ?_<;>intro hc
 . have he:e.2.2≠0:=fO.1 hc;rw [cD he] at h;obtain rfl:=dj h;refine rJ (ag (ag (rM 12 ?_)));exact zE (zd (zU (zM ⟨rfl,_,zv rfl rfl rfl,E0,_,rfl,IsOwn.nil⟩)))
 . have he:e.2.2=0:=fP.1 hc;rw [ct oM] at h;refine rJ (mv (K1 (zC (v := .int .i64 (e.1+e.2.1)) rfl rfl (sI (zm oM oM)) (K8 rfl (ag (rm [0,17] ?_))))));refine K0 rfl ?_ ?_<;>intro hc
   . have B:0<e.1+e.2.1:=dh hc;rw [cD B] at h;obtain rfl:=dj h;refine rj (ag (ag (rM 12 ?_)));exact zE (zd (zU (zM ⟨rfl,_,zv rfl rfl rfl,E0,_,rfl,IsOwn.nil⟩)))
   . have B:¬ 0<e.1+e.2.1:=de hc;rw [ct B] at h;refine zw (zN (zK (rj (mv ?_))));have C:=E0.size;refine K1 (j0 E0 yB (zHL j h) fun v23 w2 E0 hr => ?_);obtain ⟨u,rfl,F⟩:=hr;refine xt rfl (xt rfl (ag (ag (rM 12 ?_))));exact zE (zM ⟨rfl,_,zv rfl rfl rfl,E0,_,rfl,F.sz C⟩)
end Go.Proofs.YtjiendlfobjanaaGreatDoor
namespace Go.Proofs.YtjiendlfobjanaaGreatDoor
open Go Go.RowKit Go.Proofs Tryz
set_option maxRecDepth 10000
set_option maxHeartbeats 2000000
variable {E a b c i ix len n o:Nat} {K:Value->World->Prop} {P:Program} {T T' ty:TypeId} {af:Array Edge} {cs cs':List Value} {g:Option (Nat×Bool)} {l:List Rat} {p q:Poly} {pos:String} {r:Option Nat} {v:Value} {w w':World} {σ:Operand->Value}
section laws
variable {d:Option Tmp}
def ArrOf (P:Program) (T len E n:Nat):Prop:=P.underlying T=some (.array len E)/\(P.info? E).map (·.size)=some n
theorem zAA {T:Nat} {x i:Operand} {k:IntKind} {ix:Int} (h:ArrOf P T len E n) (j:σ x = .pointer (some ⟨b,o,none⟩)) (B:σ i = .int k ix) (C:0<=ix) (D:ix<len)
 (F:K (.pointer (some ⟨b,o+ix.toNat*n,none⟩)) w):Runs P r ⟨d,.indexAddr T x i,ty,pos,af,g⟩ σ w K:=by
 refine zy (fun _ e=>by cases e) ?_ F;simp [execOp,Instr.indexAt,run_underlying h.1,j,B,asIntOf,C,D,run_sizeOf' h.2,zAm,Instr.sureAddr]
theorem zFE {T:Nat} {x i:Operand} {cs:Array Value} {k:IntKind} (h:ArrOf P T len E 1) (j:Plain P E) (B:σ x = .agg cs) (C:σ i = .int k (ix:Int)) (D:ix<len) (F:cs[ix]? = some v)
 (G:K v w):Runs P r ⟨d,.index T x i,ty,pos,af,g⟩ σ w K:=by
 refine zy (fun _ e=>by cases e) ?_ G;have h2:((ix:Nat):Int)<(len:Int):=oM
 have H:(0:Int)<=(ix:Int):=oM
 simp [execOp,Instr.index,run_underlying h.1,B,C,asIntOf,h2,run_sizeOf' h.2,part,j.isAgg,F,D]
end laws
theorem zFJ:ArrOf prog 245 2 25 1:=pU
theorem zQF:(prog.info? 245).bind (·.zero)=some (.agg #[.slice none 0 0,.slice none 0 0]):=kR
theorem zQB:(prog.info? 245).map (·.size)=some 2:=kR
theorem aggr245:Aggr prog 245 2:=pU
theorem Blk.neT (h:Blk w a T cs) (k:Blk w b T' cs') (j:T≠T'):a≠b:=fun e=>by
 subst e;unfold Blk at h k;rw [h] at k;cases k;exact j rfl
theorem PBlk.updT (h:PBlk w b l) (e:Upd c w w') (j:Blk w c T cs) (C:T≠37) (D:T≠164):PBlk w' b l:=by
 obtain ⟨ds,B,F,G⟩:=h;exact ⟨ds,B.upd e (B.neT j (eH C)),F,fun i H=>(G i H).updT e j D⟩
theorem PBlk.ne (h:PBlk w b l) (e:Blk w c T cs) (j:T≠37):b≠c:=by
 obtain ⟨ds,B,_⟩:=h;exact B.neT e (eH j)
def fillL (P:Nat->Bool) (q:Poly) (i:Nat):Poly:=q.mapIdx fun k c=>if k<i/\P k=true then c else 0
theorem zBy {P:Nat->Bool}:(fillL P q i).length=q.length:=by unfold fillL;simp
theorem zLl {P:Nat->Bool}:fillL P q 0=List.replicate q.length 0:=by
 unfold fillL;apply gc sM;intro k e h;simp
theorem zQk {P:Nat->Bool} (h:P i=false):fillL P q (i+1)=fillL P q i:=by
 unfold fillL;apply gc sM;intro k B C;simp only [gA];by_cases e:k=i
 . subst e;rw [ct (by simp [h]),ct (by simp [h])]
 . by_cases j:k<i/\P k=true
   . rw [cD j,cD ⟨oM,j.2⟩]
   . rw [ct j,ct (fun h=>j ⟨oM,h.2⟩)]
theorem zOP {P:Nat->Bool} (h:P i=true):fillL P q (i+1)=(fillL P q i).set i (q.getD i 0):=by
 unfold fillL;apply gc sM;intro k B C;rw [List.getElem_set];simp only [gA];have hk:k<q.length:=by simpa using B
 by_cases e:i=k
 . subst e;rw [cD rfl,cD ⟨oM,h⟩];simp [hk]
 . rw [ct e];by_cases j:k<i/\P k=true
   . rw [cD j,cD ⟨oM,j.2⟩]
   . rw [ct j,ct (fun h=>j ⟨oM,h.2⟩)]
theorem zOO {P:Nat->Bool}:fillL P q q.length=q.mapIdx fun k c=>if P k=true then c else 0:=by
 unfold fillL;apply gc sM;intro k j B;simp only [gA];have:k<q.length:=by simpa using j
 by_cases e:P k=true
 . rw [cD e,cD ⟨this,e⟩]
 . rw [ct e,ct (fun h=>e h.2)]
def turn4 (p:Poly):Poly:=p.mapIdx fun k c=>if 2<=k%4 then -c else c
theorem zBR:(turn4 p).length=p.length:=by unfold turn4;simp
theorem zPQ (h:i<p.length):(turn4 p).getD i 0=if 2<=i%4 then -(p.getD i 0) else p.getD i 0:=by
 unfold turn4;simp [h]
theorem square_eq (p:Poly):zRf p=(pmul (fillL (fun k=>decide (k%2=0)) (turn4 p) (turn4 p).length) (fillL (fun k=>decide (k%2=0)) (turn4 p) (turn4 p).length)).bind fun x =>
 (pmul (fillL (fun k=>decide (k%2=1)) (turn4 p) (turn4 p).length) (fillL (fun k=>decide (k%2=1)) (turn4 p) (turn4 p).length)).bind fun y=>padd x y:=by
 rw [zOO,zOO];have h:(turn4 p).mapIdx (fun k c=>if k%2=0 then c else 0)=(turn4 p).mapIdx fun k c=>if decide (k%2=0)=true then c else 0:=by
  congr 1;funext k c;by_cases e:k%2=0<;>simp [e]
 have j:(turn4 p).mapIdx (fun k c=>if k%2=0 then 0 else c)=(turn4 p).mapIdx fun k c=>if decide (k%2=1)=true then c else 0:=by
  congr 1;funext k c;rcases fy k with e | e<;>simp [e]
 rw [<- h,<- j];rfl
end Go.Proofs.YtjiendlfobjanaaGreatDoor
namespace Go.Proofs.YtjiendlfobjanaaGreatDoor
open Go Go.RowKit Go.Proofs Tryz
set_option maxRecDepth 10000
set_option maxHeartbeats 2000000
attribute [local irreducible] Runs WPE CallK Ret
variable {p s:Poly} {v:Value} {w:World}
theorem zPI (hp:IsPoly w v p) (h:zRf p=some s):Ret prog 75 #[v] w (fun r w'=>IsOwn w.heap.size w' r s):=by
 obtain ⟨pp,pc,rfl,aJ,aj,ak⟩:=hp;refine J0 44 func75 rfl (rj (ag (rM 1 ?_)));refine zA ?_;rw [square_eq] at h;obtain ⟨x,h1,h⟩:=bind_some h;obtain ⟨y,h2,h3⟩:=bind_some h;refine zGd [2,5,7] [(6,fun σ=>(fun l => .agg l.toArray) ([8,11].map σ))] none 8 [[0],[1],[1,1],[0],[1],[1,1],[7,1],[]] mixed kR (zEr.cons [8,11] (fun l => .agg l.toArray) kR (zEr.nil)) fun K Z=>dM aL (du (fun F B=>zG zAC B.1 eR) ?_);refine dxn (fun v w'=>∃ b,v = .slice (some ⟨b,0,none⟩) p.length p.length/\PBlk w' b (List.replicate p.length 0)/\w.heap.size<=b) (fun _ _ _ _ hx h=>(let ⟨b,e,I,hg⟩:=h;⟨b,e,I.ext hx.toExt,hg⟩)) (fun σ wx F B=>zAK zAs zFT rfl B.1 B.1 oM oM oM fun b w2 U J I hs=>⟨J,⟨b,rfl,PBlk.zeros I,(by rw [U];exact F.size)⟩,Xtra.new dE fun c M=>(by cases M;exact ⟨dS U.symm,by show b<_;omega⟩)⟩) ?_;refine dM aL (du (fun F B=>zG zAC B.1 eR) ?_)
 refine dxn (fun v w'=>∃ b,v = .slice (some ⟨b,0,none⟩) p.length p.length/\PBlk w' b (List.replicate p.length 0)/\w.heap.size<=b) (fun _ _ _ _ hx h=>(let ⟨b,e,I,hg⟩:=h;⟨b,e,I.ext hx.toExt,hg⟩)) (fun σ wx F B=>zAK zAs zFT rfl B.1 B.1 oM oM oM fun b w2 U J I hs=>⟨J,⟨b,rfl,PBlk.zeros I,(by rw [U];exact F.size)⟩,Xtra.new dE fun c M=>(by cases M;exact ⟨dS U.symm,by show b<_;omega⟩)⟩) ?_;refine dxn (fun _ _=>True) (fun _ _ _ _ _ h=>h) (fun σ wx F B=>(by obtain ⟨y1,V,-⟩:=B.1;obtain ⟨y2,e2,-⟩:=B.2.1;have V:σ 8=_:=V;have e2:σ 11=_:=e2;refine zV (cs := #[.slice (some ⟨y1,0,none⟩) p.length p.length,.slice (some ⟨y2,0,none⟩) p.length p.length]) ?_ ⟨Ext.refl _,trivial,Xtra.one dE (by show _=Value.agg #[σ 8,σ 11];rw [V,e2])⟩;show prog.built 245 [(0,σ 8),(1,σ 11)]=_;rw [V,e2];kernel_rfl)) ?_;refine dxn (fun v w'=>∃ b,v = .pointer (some ⟨b,0,none⟩)/\Blk w' b 245 [.slice none 0 0,.slice none 0 0]/\w.heap.size<=b) (fun _ _ _ _ hx h=>(let ⟨b,e,I,hg⟩:=h;⟨b,e,I.ext hx.toExt,hg⟩)) (fun σ wx F B=>zR zQF fun b w2 U J I hs=>⟨J,⟨b,rfl,I,(by rw [U];exact F.size)⟩,Xtra.new dE fun c M=>(by cases M;exact ⟨dS U.symm,by show b<_;omega⟩)⟩) ?_;refine zAJ (Z _ fun wq F => ?_)
 rintro _ rfl _ rfl v8 N8 _ rfl _ rfl aK ar au aM v3 N3;refine zY ?_;intro hsep;replace E0:=E0.trans F;obtain ⟨b1,rfl,C,av⟩:=N8;obtain ⟨b2,rfl,D,aw⟩:=ar;obtain ⟨cb,rfl,j,ax⟩:=N3;have e12:au = .agg #[.slice (some ⟨b1,0,none⟩) p.length p.length,.slice (some ⟨b2,0,none⟩) p.length p.length]:=hsep.2 6 _ (dI.2 rfl) 12 rfl;subst e12;have hne:b1≠b2:=fun e=>hsep.1 2 dE 5 dE dE 8 11 rfl rfl b1 rfl (by rw [e];rfl);refine K1 (zc zQB rfl j rfl (cw rfl) dE rfl fun w9 hU hN => ?_);replace E0:=E0.upd hU ax;replace C:=C.updT hU j dE dE;replace D:=D.updT hU j dE dE;clear j;have j:=hN;refine zAh (zK (K5 [0,3] ?_));refine zA (rJ (K1 (zG zAC rfl (mv (rM 57352 ?_)))));refine zF ?_
 refine zX (X:=Nat) (fun i ρ w'=>Keep ρ [(3,.pointer (some ⟨cb,0,none⟩)),(13,.slice pp p.length pc),(14,.int .i64 (p.length:Int)),(15,.int .i64 (i:Int))]/\i<=p.length/\Ext w w'/\Blk w' cb 245 [.slice (some ⟨b1,0,none⟩) p.length p.length,.slice (some ⟨b2,0,none⟩) p.length p.length]/\PBlk w' b1 (fillL (fun k=>decide (k%2=0)) (turn4 p) i)/\PBlk w' b2 (fillL (fun k=>decide (k%2=1)) (turn4 p) i)) (fun i=>p.length-i) 0 ⟨(kp rfl),di _,E0,j,by rw [zLl,zBR];exact C,by rw [zLl,zBR];exact D⟩ ?_;rintro i ρ1 w1 ⟨B,aN,E0,j,C,D⟩;refine wpe_k _ B ?_;refine rj (K8 rfl (rM 122888 ?_));refine zA ?_;refine K0 rfl ?_ ?_<;>intro M
 . have Y:i<p.length:=t_lt M;refine sk (zA (zF (rJ (K1 (runs_pindex (aj.ext E0) rfl rfl Y (K1 (runs_pload (aj.ext E0) Y rfl fun v19 aa => ?_)))))));refine K1 (zR zAt fun O w7 U F H hs => ?_);have Q:w.heap.size<=O:=by rw [U];exact E0.size
   have al:O≠b1:=by have:=C.lt;omega
   have am:O≠b2:=by have:=D.lt;omega
   have an:cb≠O:=by have:=j.lt;omega
   have ab:[Value.bool false,.slice none 0 0,.slice none 0 0].length=3:=rfl;obtain ⟨E0,aa,j,C,D⟩:=V4 F E0 aa.ext j.ext C.ext D.ext;refine ag (K1 (zO rfl aa (Cell3.of H ab) fun _ w9 hU G => ?_));replace E0:=E0.upd hU Q;replace C:=C.upd hU H (eH al);replace D:=D.upd hU H (eH am);replace j:=j.upd hU an;refine rM 57400 ?_;refine zBZ (fun ρ w'=>∃ O,Keep ρ [(3,.pointer (some ⟨cb,0,none⟩)),(4,.int .i64 (i:Int)),(5,.pointer (some ⟨O,0,none⟩)),(13,.slice pp p.length pc),(14,.int .i64 (p.length:Int)),(15,.int .i64 (i:Int))]/\Ext w w'/\Blk w' cb 245 [.slice (some ⟨b1,0,none⟩) p.length p.length,.slice (some ⟨b2,0,none⟩) p.length p.length]/\PBlk w' b1 (fillL (fun k=>decide (k%2=0)) (turn4 p) i)/\PBlk w' b2 (fillL (fun k=>decide (k%2=1)) (turn4 p) i)/\NumAt O ((turn4 p).getD i 0) w'/\w.heap.size<=O) ?_ ?_
   . refine rJ (K1 (zAE (b:=4) (i%4) rfl rfl dE rfl (K8 rfl (rM 4251704 ?_))));refine K0 rfl ?_ ?_<;>intro M
     . have h4:2<=i%4:=by have:=dh M;omega
       refine K6 (K1 (zW rfl G fun aO ay=>K1 (j4 E0 G.ext C.ext D.ext j.ext yB (zLW ay) fun v24 w2 E0 G C D j N24 => ?_)));obtain ⟨aP,H,ab,-⟩:=G;refine K1 (zO rfl N24 (Cell3.of H ab) fun _ w9 hU G => ?_);replace E0:=E0.upd hU Q;replace C:=C.upd hU H (eH al);replace D:=D.upd hU H (eH am);replace j:=j.upd hU an
       try clear N24
       refine rl (zL ?_);exact ⟨rfl,O,(kp rfl),E0,j,C,D,by rw [zPQ Y,cD h4];exact G,Q⟩
     . have h4:¬ 2<=i%4:=by have:=de M;omega
       refine zw (zL ?_);exact ⟨rfl,O,(kp rfl),E0,j,C,D,by rw [zPQ Y,ct h4];exact G,Q⟩
   . skip
     rintro aQ w2 ⟨O,B,E0,j,C,D,G,Q⟩;refine wpe_k _ B ?_;rcases fy i with hpar | hpar
     . skip
       refine zAR none 7 [[8],[1],[6,1],[1],[8],[10],[5,3]] mixed kR fun K Z=>dM aL (du (fun F B=>zAE (b:=2) (0) B.1 rfl dE hpar eR) (du (fun F B=>zAA zFJ B.1 B.2.1 dE dE eR) (du (u := .slice (some ⟨b1,0,none⟩) p.length p.length) (fun F B=>zD zBv B.1 (j.ext F) rfl eR) (dM aL (dc (fun F B=>zW B.1 (G.ext F) fun _=>eX) (du (fun F B=>zCV B.1 B.2.1 Y eR) (zAJ (Z _ fun wq F => ?_))))))));rintro _ rfl _ rfl v27 N27 v28 N28 _ rfl v30 N30 v31 N31;refine zY ?_;obtain ⟨E0,j,C,D,G⟩:=V4 F E0 j.ext C.ext D.ext G.ext;subst N27;subst N28;subst N31;refine K1 (zBE (k:=i) rfl rfl N30 C (by rw [zBy,zBR];exact Y) fun v w2 hU hN => ?_);replace E0:=E0.upd hU av;replace j:=j.upd hU (eH (C.ne j dE));replace D:=(let ⟨cs,V,_⟩:=C;D.upd hU V (eH hne));clear C;have C:=hN;rw [<- zOP (by simp [hpar])] at C;rw [<- zQk (P:=(fun k=>decide (k%2=1))) (q:=turn4 p) (i:=i) (by simp [hpar])] at D;refine zAh (zN (zK (K5 [3,4,5,13,14,15] ?_)));exact K6 (K1 (zg (b:=1) (i+1) rfl rfl rfl oM (mv (rl (zL (⟨rfl,i+1,⟨(kp rfl),oM,E0,j,C,D⟩,oM⟩))))))
     . skip
       refine zAR none 7 [[8],[1],[6,1],[1],[8],[10],[5,3]] mixed kR fun K Z=>dM aL (du (fun F B=>zAE (b:=2) (1) B.1 rfl dE hpar eR) (du (fun F B=>zAA zFJ B.1 B.2.1 dE dE eR) (du (u := .slice (some ⟨b2,0,none⟩) p.length p.length) (fun F B=>zD zBv B.1 (j.ext F) rfl eR) (dM aL (dc (fun F B=>zW B.1 (G.ext F) fun _=>eX) (du (fun F B=>zCV B.1 B.2.1 Y eR) (zAJ (Z _ fun wq F => ?_))))))));rintro _ rfl _ rfl v27 N27 v28 N28 _ rfl v30 N30 v31 N31;refine zY ?_;obtain ⟨E0,j,C,D,G⟩:=V4 F E0 j.ext C.ext D.ext G.ext;subst N27;subst N28;subst N31;refine K1 (zBE (k:=i) rfl rfl N30 D (by rw [zBy,zBR];exact Y) fun v w2 hU hN => ?_);replace E0:=E0.upd hU aw;replace j:=j.upd hU (eH (D.ne j dE));replace C:=(let ⟨cs,V,_⟩:=D;C.upd hU V hne);clear D;have D:=hN;rw [<- zOP (by simp [hpar])] at D;rw [<- zQk (P:=(fun k=>decide (k%2=0))) (q:=turn4 p) (i:=i) (by simp [hpar])] at C;refine zAh (zN (zK (K5 [3,4,5,13,14,15] ?_)));exact K6 (K1 (zg (b:=1) (i+1) rfl rfl rfl oM (mv (rl (zL (⟨rfl,i+1,⟨(kp rfl),oM,E0,j,C,D⟩,oM⟩))))))
 . obtain rfl:i=p.length:=by have:=f_lt M;omega
   refine zT (zt (zf (zI (zK (zA ?_)))));have ao:IsPoly _ (.slice (some ⟨b1,0,none⟩) p.length p.length) (fillL (fun k=>decide (k%2=0)) (turn4 p) p.length):=⟨_,p.length,by rw [zBy,zBR],by rw [zBy,zBR];exact cX _,C.rd,by rw [zBy,zBR];exact ak⟩;have hA2:IsPoly _ (.slice (some ⟨b2,0,none⟩) p.length p.length) (fillL (fun k=>decide (k%2=1)) (turn4 p) p.length):=⟨_,p.length,by rw [zBy,zBR],by rw [zBy,zBR];exact cX _,D.rd,by rw [zBy,zBR];exact ak⟩;rw [zBR] at h1 h2
   refine zAe [[6],[1],[6],[1],[5,1],[6],[1],[6],[1],[5,1],[11,1],[1]] mixed kR fun K Z=>du (fun F B=>zAA (ix:=0) zFJ B.1 rfl dE dE eR) (du (u := .slice (some ⟨b1,0,none⟩) p.length p.length) (fun F B=>zD zBv B.1 (j.ext F) rfl eR) (du (fun F B=>zAA (ix:=0) zFJ B.1 rfl dE dE eR) (du (u := .slice (some ⟨b1,0,none⟩) p.length p.length) (fun F B=>zD zBv B.1 (j.ext F) rfl eR) (dC (fun v w'=>IsPoly w' v x) (fun F B=>zJ yB (CallK.eq2 B.1 B.2.1 (CallK.of_ret (zDi (ao.ext F) (ao.ext F) h1) fun v w2 J hr=>⟨J,hr.poly⟩)) rfl) (du (fun F B=>zAA (ix:=1) zFJ B.1 rfl dE dE eR) (du (u := .slice (some ⟨b2,0,none⟩) p.length p.length) (fun F B=>zD zBv B.1 (j.ext F) rfl eR) (du (fun F B=>zAA (ix:=1) zFJ B.1 rfl dE dE eR) (du (u := .slice (some ⟨b2,0,none⟩) p.length p.length) (fun F B=>zD zBv B.1 (j.ext F) rfl eR) (dC (fun v w'=>IsPoly w' v y) (fun F B=>zJ yB (CallK.eq2 B.1 B.2.1 (CallK.of_ret (zDi (hA2.ext F) (hA2.ext F) h2) fun v w2 J hr=>⟨J,hr.poly⟩)) rfl) (dC (fun v w'=>IsOwn w.heap.size w' v s) (fun F B=>zJ yB (CallK.of_ret (zHO B.1 B.2.1 h3) fun v w2 J hr=>⟨J,(hr.sz (dz E0.size F.size))⟩) rfl) (dC (fun v w'=>IsOwn w.heap.size w' v s) (fun F B=>zr (eX B.1)) (zAJ (Z _ fun wq F => ?_)))))))))))))
   rintro aR aS aU aV aW aX aY aZ a0 a9 ba bb bc bd be bf bg bh bi bj bk bm v2 N2;refine zY ?_;replace E0:=E0.trans F;refine zK (K5 [2,3,13,14,15] ?_);exact zE (en rfl E0 N2)
end Go.Proofs.YtjiendlfobjanaaGreatDoor
