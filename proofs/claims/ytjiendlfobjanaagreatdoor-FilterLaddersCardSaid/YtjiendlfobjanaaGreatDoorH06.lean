/-
  A part of the proof: W79, W80, W81, W82, W83, W84, W85, W86, W87, W88, W89, W90, W74, W75, W92, W66, W93, W76, Room, LawF, LawF2, LawF3, LawA, LawR, LawR2.
-/
import Derived.Test.YtjiendlfobjanaaGreatDoorH05
import Derived.Laws.StructEq
namespace Go.Proofs.YtjiendlfobjanaaGreatDoor.R
open Go Go.RowKit Go.Proofs Tryz
set_option maxRecDepth 10000
set_option maxHeartbeats 2000000
attribute [local irreducible] Runs WPE CallK Ret
variable {l:List Rat} {n:Nat} {u v:Value} {w:World} {x y:Rat}
theorem m1_res:(qOf (decide ((-1:Int)<0)) (if (-1:Int)=0 then 0 else 0+0+1) 1) = -1:=dK
theorem zQL:Ret prog 112 #[.int .i64 (-1)] w (fun u w'=>IsR w' u (-1)):=by
 refine J0 28 func112 rfl (rj ?_);refine K1 (zR zero50 (Z0 E0 fun z w1 E0 f e=>rM 5 ?_));refine zA (rJ (K8 rfl (rM 37 ?_)));refine wct rfl (rJ (K1 (zCI rfl rfl dE (ag (rM 13 ?_)))));refine rJ (K1 (zEQ rfl (K1 (j1 E0 e.ext yB (zHD (n:=0) dE) fun v3_2 w2 E0 e N1=>mv (K1 (zEQ rfl (K1 (j2 E0 e.ext N1.ext yB (zHD (n:=0) dE) fun v3_5 w3 E0 e N1 N2 => ?_))))))));refine K1 (j3 E0 e.ext N1.ext N2.ext yB (zNL N1 N2 (by unfold Fit;decide +kernel) (by unfold Fit;decide +kernel)) fun v3_6 w4 E0 e N1 N2 N3 => ?_);refine mv (mv (K8 rfl (K8 rfl (K1 (zEQ rfl (K1 (j4 E0 e.ext N1.ext N2.ext N3.ext yB (zHD (n:=1) dE) fun v3_12 w5 E0 e N1 N2 N3 N4 => ?_)))))));refine K1 (j5 E0 e.ext N1.ext N2.ext N3.ext N4.ext yB (zNL N3 N4 (by unfold Fit;decide +kernel) (by unfold Fit;decide +kernel)) fun v3_13 w6 E0 e N1 N2 N3 N4 N5 => ?_);refine K1 (j6 E0 e.ext N1.ext N2.ext N3.ext N4.ext N5.ext yB (zHG _) fun v3_14 w7 E0 e N1 N2 N3 N4 N5 N6 => ?_);refine K1 (j7 E0 e.ext N1.ext N2.ext N3.ext N4.ext N5.ext N6.ext yB (zGQ (s := -1) (.inr (.inl rfl)) N5 N6 dE (by unfold Fits;decide +kernel) (by unfold Fits;decide +kernel)) fun v3_15 w8 E0 e N1 N2 N3 N4 N5 N6 N7 => ?_);rw [m1_res] at N7;refine K1 (runs_rstoreK rfl N7 (Cell3.of e rfl) fun _ w9 hU hN => ?_);replace E0:=E0.upd hU f;obtain ⟨cs,h,j,t⟩:=hN;refine rM 4 ?_
 exact zE (zU (zM ⟨rfl,_,zq rfl rfl rfl zAS h j,E0,t⟩))
def psubR (p q:Poly):Poly:=trim ((List.range (max p.length q.length)).map fun i=>co p i-co q i)
theorem zDM {f:Nat->Rat} (k:Nat):co ((List.range n).map f) k=if k<n then f k else 0:=by
 unfold co;by_cases h:k<n
 . rw [cD h,cC,fC,List.getElem?_range h];rfl
 . rw [ct h,cC,ez (by simpa using Nat.not_lt.1 h)];rfl
theorem zHq (p q:Poly) (k:Nat):co (psubR p q) k=co p k-co q k:=by
 unfold psubR;rw [zAU,zDM];split
 . rfl
 . rw [co_ge oM,co_ge oM];grind
theorem psubR_eq (p q:Poly):trim (addR p (trim (q.map (· * -1))))=psubR p q:=by
 refine zBW (ze _) (ze _) fun k => ?_;rw [zAU,zHq];unfold addR;have e:∀ i,(trim (q.map (· * (-1:Rat)))).getD i 0 = - co q i:=fun i=>by
  have:=zAU (q.map (· * (-1:Rat))) i
  unfold co at this;rw [this];show co (q.map (· * (-1:Rat))) i=_
  unfold co;rw [cC,cC,fC];cases q[i]? with
  | none=>rfl
  | some x=>show x * -1 = -x;grind
 rw [zDM];split
 . rw [e,iq];rfl
 . rename_i j;have h1:p.length<=k:=by omega
   have h:co q k=0:=by
    have f:=e k;rw [cC,ez oM] at f;have h4:(0:Rat) = - co q k:=f;grind
   rw [co_ge h1,h];grind
theorem getD_scaleM (q:Poly) (i:Nat):(trim (q.map (· * (-1:Rat)))).getD i 0 = - q.getD i 0:=by
 have:=zAU (q.map (· * (-1:Rat))) i
 unfold co at this;rw [this,cC,cC,fC];cases q[i]? with
 | none=>rfl
 | some x=>show x * -1 = -x;grind
theorem Room.one (h:Room x y):Room x (-1):=by
 unfold Room at *;have:sz (-1)=0:=dK
 omega
theorem zQM {p q:List Rat} (f:IsPoly w u p) (h:IsPoly w v q) (e:∀ i,Room (p.getD i 0) (q.getD i 0)):Ret prog 206 #[u,v] w (fun r w'=>zCT w.heap.size w' r (psubR p q)):=by
 have j:∀ i,i<q.length->Room (q.getD i 0) (-1):=fun i _=>(show Room (q.getD i 0) (p.getD i 0) by have:=e i;unfold Room at *;omega).one;have ha:∀ i,i<max p.length (trim (q.map (· * (-1:Rat)))).length->Room (p.getD i 0) ((trim (q.map (· * (-1:Rat)))).getD i 0):=fun i _=>by
  rw [getD_scaleM];exact (e i).negr
 have E0:Ext w w:=Ext.refl w;refine J0 10 func206 rfl (rj (ag (rM 3 ?_)));refine rJ (mv (K1 (j0 E0 yB (zQL) fun v7 w2 E0 N7=>K1 (j0 E0 yB (zDL (h.ext E0) N7 j) fun v8 w2 E0 N8 => ?_))));have hs0:=E0.size;refine K1 (j0 E0 yB (zJb (f.ext E0) N8 ha) fun v9 w2 E0 e => ?_);rw [psubR_eq] at e;refine ag (rm [4] ?_);exact zE (en rfl E0 (e.le hs0))
theorem zHP {p q:List Rat} (e:IsPoly w u p) (f:IsPoly w v q) (j:∀ i,Room (p.getD i 0) (q.getD i 0)):Ret prog 206 #[u,v] w (fun r w'=>IsPoly w' r (psubR p q)) :=
 (zQM e f j).mono fun _ _ _ h=>h.poly (by
  obtain ⟨_,_,_,_,_,t⟩:=e;obtain ⟨_,_,_,_,_,z⟩:=f;have:=zAV ((List.range (max p.length q.length)).map fun i=>co p i-co q i);simp at this;unfold psubR;omega)
def derR (p:Poly):Poly:=trim ((List.range (p.length-1)).map fun k=>co p (k+1)*((k+1:Nat):Rat))
theorem zIb (p:Poly) (k:Nat):co (derR p) k=co p (k+1)*((k+1:Nat):Rat):=by
 unfold derR;rw [zAU,zDM];split
 . rfl
 . rw [co_ge (oM:p.length<=k+1),dO]
theorem derR_trimd (p:Poly):Trimd (derR p):=ze _
theorem zDr {p:List Rat} (z:IsPoly w v p) (j:∀ i,i+1<p.length->Room (p.getD (i+1) 0) ((i+1:Nat):Rat)):Ret prog 316 #[v] w (fun r w'=>IsPoly w' r (derR p)):=by
 obtain ⟨pp,D,rfl,G,t,H⟩:=z;refine J0 23 func316 rfl (rj (ag (rM 1 ?_)));refine rj (ag (rM 9 ?_));refine zA (rj (ag (rM 25 ?_)));refine zF (zX (X:=Nat) (fun i ρ w'=>∃ vo,Keep ρ [(0,.slice pp p.length D),(3,vo),(4,.int .i64 ((i+1:Nat):Int))]/\i<=p.length-1/\Ext w w'/\AccP w.heap.size w' vo ((List.range i).map fun k=>co p (k+1)*((k+1:Nat):Rat))) (fun i=>p.length-i) 0 ⟨_,(kp rfl),di _,E0,AccP.nil⟩ ?_);rintro i ρ1 w1 ⟨vo,e,I,E0,h⟩;refine wpe_k _ e ?_;refine zA (rJ (mv (K1 (zG slice26 rfl (K8 rfl (rM 281 ?_))))));refine K0 rfl ?_ ?_<;>intro hc
 . have f:i+1<p.length:=t_lt hc;refine sk (zA (zF (zAR none 9 [[6],[0],[8],[3,1],[1],[8],[1],[5,1],[1]] mixed kR fun K hK=>dM aL (dM aL (dM aL (du (fun hE e=>runs_pindex (ix:=i+1) (t.ext (E0.trans hE)) e.1 e.2.1 f eR) (dc (fun hE e=>runs_pload (l:=p) (i:=i+1) (t.ext (E0.trans hE)) f e.1 fun _=>eX) (dM aL (dC (fun v w'=>IsR w' v ((i+1:Nat):Rat)) (fun hE e=>zJ yB (CallK.eq1 e.1 (CallK.of_ret (zDC (n:=i+1) oM) fun v w2 F j=>⟨F,j⟩)) rfl) (dl (fun hE e=>Mul_ok e.1 e.2.1 (j i f)) (dC (fun v w'=>OneR 0 (p.getD (i+1) 0*((i+1:Nat):Rat)) v w') (fun hE e=>runs_one (sz:=0) e.1 (di _)) (zAJ (hK _ fun wq hE => ?_)))))))))))));rintro _ rfl _ rfl _ rfl v14 N14 v15 N15 _ rfl v17 N17 v18 N18 v19 N19;refine zY ?_;obtain ⟨E0,h⟩:=V1 hE E0 h.ext;refine K1 (zEu rfl h N19 (by simp;omega) E0.size fun v' w9 hN h => ?_);replace E0:=hN.ext _ (cX _) E0;refine ag (zAh (zN (zK (K5 [0,3,4] ?_))));refine rI (K8 rfl (ag (rl (zL ?_))));exact ⟨rfl,i+1,⟨_,kw,oM,E0,by rw [iA,eK];exact h⟩,oM⟩
 . have J:=f_lt hc;obtain rfl:i=p.length-1:=by omega
   refine zT (zt (zf (zI (zK (rj (mv ?_))))));refine K1 (j0 E0 yB (zBS (h.poly (by simp;omega))) fun N w2 E0 j => ?_);refine ag (rM 21 ?_);exact zE (en rfl E0 j)
def mirR (p:Poly):Poly:=trim ((List.range p.length).map fun k=>if k%2=1 then-co p k else co p k)
theorem zFA (p:Poly) (k:Nat):co (mirR p) k=if k%2=1 then-co p k else co p k:=by
 unfold mirR;rw [zAU,zDM];split
 . rfl
 . rw [co_ge (oM:p.length<=k)];split<;>rfl
theorem mirrored_ok {p:List Rat} (D:IsPoly w v p):Ret prog 209 #[v] w (fun r w'=>IsPoly w' r (mirR p)):=by
 obtain ⟨pp,F,rfl,N,h,O⟩:=D;refine J0 31 func209 rfl (rj (ag (rM 1 ?_)));refine rj (ag (rM 9 ?_));refine zA (rj (ag (rM 25 ?_)));refine zF (zX (X:=Nat) (fun i ρ w'=>∃ vo,Keep ρ [(0,.slice pp p.length F),(3,vo),(4,.int .i64 ((i:Nat):Int))]/\i<=p.length/\Ext w w'/\AccP w.heap.size w' vo ((List.range i).map (fun k=>if k%2=1 then-co p k else co p k))) (fun i=>p.length-i) 0 ⟨_,(kp rfl),di _,E0,AccP.nil⟩ ?_);rintro i ρ1 w1 ⟨vo,G,T,E0,e⟩;refine wpe_k _ G ?_;refine zA (rJ (mv (K1 (zG slice26 rfl (K8 rfl (rM 281 ?_))))));refine K0 rfl ?_ ?_<;>intro hc
 . have f:i<p.length:=t_lt hc;refine sk (zA (zF (zA ?_)));rcases (oM:i%2=1\/i%2=0) with h2 | h2
   . have j:(fun k=>if k%2=1 then-co p k else co p k) i = - p.getD i 0:=cD h2;refine rI (K1 (zAE (b:=2) (i%2) rfl rfl dE rfl ?_));refine K1 (zC (v := .bool (true)) rfl rfl (sB (by rw [h2];rfl)) ?_);refine rS 8217 ?_;refine wct rfl (rI (mv (mv (K1 (runs_pindex (l:=p) (ix:=i) (h.ext E0) rfl rfl f (K1 (runs_pload (l:=p) (i:=i) (h.ext E0) f rfl fun vn N1=>K1 (j1 E0 e.ext yB (zLW N1) fun vn2 w2 E0 e N2 => ?_))))))))
     try clear N1
     refine K1 (zEC N2 fun H I t z => ?_);obtain ⟨E0,e⟩:=V1 t E0 e.ext;refine K1 (zEu rfl e z (by simp;omega) E0.size fun v' w9 hN e => ?_);replace E0:=hN.ext _ (cX _) E0;rw [<- j] at e;refine ag (rl (zN (zK (K5 [0,3,4] ?_))));refine rI (K8 rfl (ag (rl (zL ?_))));exact ⟨rfl,i+1,⟨_,kw,oM,E0,by rw [iA,eK];exact e⟩,oM⟩
   . have j:(fun k=>if k%2=1 then-co p k else co p k) i=p.getD i 0:=ct oM;refine rI (K1 (zAE (b:=2) (i%2) rfl rfl dE rfl ?_));refine K1 (zC (v := .bool (false)) rfl rfl (sB (by rw [h2];rfl)) ?_);refine rS 8217 ?_;refine wcf rfl (rI (mv (mv (K1 (runs_pindex (l:=p) (ix:=i) (h.ext E0) rfl rfl f (K1 (runs_pload (l:=p) (i:=i) (h.ext E0) f rfl fun vn N1=>K1 (zEC N1 fun H I t z => ?_))))))));obtain ⟨E0,e⟩:=V1 t E0 e.ext;refine K1 (zEu rfl e z (by simp;omega) E0.size fun v' w9 hN e => ?_);replace E0:=hN.ext _ (cX _) E0;rw [<- j] at e;refine ag (rl (zN (zK (K5 [0,3,4] ?_))));refine rI (K8 rfl (ag (rl (zL ?_))));exact ⟨rfl,i+1,⟨_,kw,oM,E0,by rw [iA,eK];exact e⟩,oM⟩
 . have U:=f_lt hc;obtain rfl:i=p.length:=by omega
   refine zT (zt (zf (zI (zK (rj (mv ?_))))));refine K1 (j0 E0 yB (zBS (e.poly (by simp;omega))) fun V w2 E0 J => ?_);refine ag (rM 21 ?_);exact zE (en rfl E0 J)
theorem long2_ok (e:IsPoly w v l):Ret prog 273 #[v] w (fun r _=>r = .bool (decide (41<(trim l).length))):=by
 refine J0 6 func273 rfl (rj (ag (rM 1 ?_)));refine rJ (K1 (j0 E0 yB (zCn e) fun h w2 E0 f => ?_));subst f;refine K8 rfl (ag (rM 4 ?_));exact zE (en rfl E0 (cW Value.bool (fR.2 oM)))
theorem asked2_ok (j:IsPoly w v l):Ret prog 207 #[v] w (fun r _=>r = .int .i64 (if 41<(trim l).length then 3 else if (trim l).length=0 then 8 else 0)):=by
 refine J0 8 func207 rfl (rj (ag (rM 1 ?_)));refine zA (rJ (K1 (j0 E0 yB (long2_ok j) fun t w2 E0 f => ?_)));subst f;refine rM 17 ?_;refine K0 rfl ?_ ?_<;>intro hc
 . have e:41<(trim l).length:=dh hc;refine rj (ag (rM 4 ?_));refine zE (zU (zM ?_));exact ⟨rfl,_,zZ rfl rfl,E0,by rw [cD e];rfl⟩
 . have e:¬ 41<(trim l).length:=de hc;refine sk (zA (rJ (K1 (j0 E0 yB (zCn (j.ext E0)) fun t w2 E0 f => ?_))));subst f;refine K8 rfl (rm [7] ?_);refine K0 rfl ?_ ?_<;>intro hc
   . have h:(trim l).length=0:=by have:=dh hc;omega
     refine rj (ag (rM 4 ?_));refine zE (zU (zM ?_));exact ⟨rfl,_,zZ rfl rfl,E0,by rw [ct e,cD h];rfl⟩
   . have h:¬ (trim l).length=0:=by have:=de hc;omega
     refine sk (rj (ag (rM 4 ?_)));refine zE (zM ?_);exact ⟨rfl,_,zZ rfl rfl,E0,by rw [ct e,ct h];rfl⟩
theorem zHo (j:IsPoly w v l):Ret prog 116 #[v] w (fun r _=>r = .int .i64 (if 41<(trim l).length then 3 else if (trim l).length=0 then 8 else 0)):=by
 refine J0 8 func116 rfl (rj (ag (rM 1 ?_)));refine zA (rJ (K1 (j0 E0 yB (zPn j) fun t w2 E0 f => ?_)));subst f;refine rM 17 ?_;refine K0 rfl ?_ ?_<;>intro hc
 . have e:41<(trim l).length:=dh hc;refine rj (ag (rM 4 ?_));refine zE (zU (zM ?_));exact ⟨rfl,_,zZ rfl rfl,E0,by rw [cD e];rfl⟩
 . have e:¬ 41<(trim l).length:=de hc;refine sk (zA (rJ (K1 (j0 E0 yB (zCn (j.ext E0)) fun t w2 E0 f => ?_))));subst f;refine K8 rfl (rm [7] ?_);refine K0 rfl ?_ ?_<;>intro hc
   . have h:(trim l).length=0:=by have:=dh hc;omega
     refine rj (ag (rM 4 ?_));refine zE (zU (zM ?_));exact ⟨rfl,_,zZ rfl rfl,E0,by rw [ct e,cD h];rfl⟩
   . have h:¬ (trim l).length=0:=by have:=de hc;omega
     refine sk (rj (ag (rM 4 ?_)));refine zE (zM ?_);exact ⟨rfl,_,zZ rfl rfl,E0,by rw [ct e,ct h];rfl⟩
variable {b c k:Nat} {cs:List Value} {p:Poly} {w':World}
def zJD (p:Poly) (x:Rat):Prop:=∀ k,k<p.length->Room (ev (p.drop (k+1)) x) x/\Room (ev (p.drop (k+1)) x*x) (p.getD k 0)
theorem ev_drop (h:k<p.length) (x:Rat):ev (p.drop k) x=ev (p.drop (k+1)) x*x+p.getD k 0:=by
 rw [dZ h,cC,cY h];show p[k]+x*_=_*x+p[k];grind
theorem Cell3.ext (h:Cell3 b w) (e:Ext w w'):Cell3 b w':=by obtain ⟨cs,f,j⟩:=h;exact ⟨cs,f.ext e,j⟩
theorem Cell3.upd (h:Cell3 b w) (e:Upd c w w') (f:b≠c):Cell3 b w':=by obtain ⟨cs,j,t⟩:=h;exact ⟨cs,j.upd e f,t⟩
theorem RAt.updN {q:Rat} (h:RAt b q w) (e:Upd c w w') (f:Blk w c 50 cs) (j:b≠c):RAt b q w':=by obtain ⟨cs',t,z,D⟩:=h;exact ⟨cs',t.upd e j,z,D.upd e f dE⟩
theorem zNF (h:IsR w v ((1:Nat):Rat)):IsR w v 1:=h
theorem zCA {p:List Rat} (hp:IsPoly w u p) (G:IsR w v x) (hr:zJD p x):Ret prog 179 #[u,v] w (fun r w'=>IsR w' r (ev p x)):=by
 obtain ⟨pp,pc,rfl,al,hP,am⟩:=hp;obtain ⟨xn,xd,T,D,F⟩:=id G;subst T;refine J0 24 func179 rfl (rj ?_);refine K1 (zn (Z3 E0 G.ext D.ext F.ext fun N w1 E0 G D F hgb1 t => ?_));refine K1 (zR zero50 (Z4a E0 G.ext D.ext F.ext t.ext t.lt fun O w2 E0 G D F t hgb2 ne_b1_b2 hB2=>rM 25 ?_));refine zA ?_;have j:RAt N x _:=⟨_,t,rfl,G⟩;have e:Cell3 O _:=Cell3.of hB2 rfl;refine K6 (K1 (zV (cs := #[.int .i64 0,.slice none 0 0,.slice none 0 0]) kR ?_));refine K1 (zR zero50 fun H w7 hb hE hBo hs => ?_);have hgo:w.heap.size<=H:=by rw [hb];exact E0.size
 have I:N≠H:=by have:=t.lt;omega
 have J:O≠H:=by have:=hB2.lt;omega
 obtain ⟨E0,j,e⟩:=V2 hE E0 j.ext e.ext;refine K1 (runs_rstoreK rfl IsR.zero (Cell3.of hBo rfl) fun _ w9 hU h => ?_);replace E0:=E0.upd hU hgo;replace j:=j.updN hU hBo I;replace e:=e.upd hU J;replace h:RAt H (ev (p.drop p.length) x) w9:=by rw [eO];exact h
 refine rS 57 ?_;refine zA (rJ (K1 (zG slice26 rfl (K8 rfl (ag (rM 121 ?_))))));refine zF (zX (X:=Nat) (fun k ρ w'=>∃ m,Keep ρ [(0,.slice pp p.length pc),(3,.pointer (some ⟨N,0,none⟩)),(4,.pointer (some ⟨O,0,none⟩)),(5,.pointer (some ⟨H,0,none⟩)),(6,.int .i64 m)]/\m=(k:Int)-1/\k<=p.length/\Ext w w'/\RAt N x w'/\Cell3 O w'/\RAt H (ev (p.drop k) x) w') (fun k=>k) p.length ⟨_,(kp rfl),zm oM oM,cX _,E0,j,e,h⟩ ?_);rintro k ρ1 w1 ⟨m,f,hm,an,E0,j,e,h⟩;refine wpe_k _ f ?_;refine zA (zA ?_);rcases k with _ | k
 . skip
   refine rI (K1 (zC (v := .bool (false)) rfl rfl (sB (cU oM)) (rS 4217 ?_)));refine wcf rfl (zT (zt (zf (zI (zK (rj (K1 (runs_rAt rfl h fun ao U=>K1 (runs_rstoreK rfl U e fun _ w9 hU hN => ?_)))))))));replace E0:=E0.upd hU hgb2;obtain ⟨cs,V,Y,Z⟩:=hN;refine rM 121 ?_;exact zE (zM ⟨rfl,_,zq rfl rfl rfl zAS V Y,E0,Z⟩)
 . obtain rfl:m=(k:Int):=by omega
   have z:k<p.length:=oM
   refine rI (K1 (zC (v := .bool (true)) rfl rfl (sB (cZ oM)) (rS 4217 ?_)));refine wct rfl (sk (zA (zF (zAR none 8 [[10],[6],[3,1],[0],[12],[3,1],[1],[9,1]] mixed kR fun K hK=>dc (fun hE f=>runs_rAt f.1 (h.ext hE) fun _=>eX) (dc (fun hE f=>runs_rAt f.1 (j.ext hE) fun _=>eX) (dl (fun hE f=>Mul_ok f.1 f.2.1 (hr k z).1) (dM aL (dM aL (du (fun hE f=>runs_pindex (l:=p) (ix:=k) (hP.ext (E0.trans hE)) f.1 f.2.1 z eR) (dc (fun hE f=>runs_pload (l:=p) (i:=k) (hP.ext (E0.trans hE)) z f.1 fun _=>eX) (dl (fun hE f=>zFH f.1 f.2.1 (hr k z).2) (zAJ (hK _ fun wq hE => ?_)))))))))))));rintro v15 N15 v16 N16 v17 N17 _ rfl _ rfl v20 N20 v21 N21 v22 N22;refine zY ?_;obtain ⟨E0,j,e,h⟩:=V3 hE E0 j.ext e.ext h.ext;obtain ⟨ap,aa⟩:=h.blk;refine K1 (runs_rstoreK rfl N22 h.cell fun _ w9 hU hF2 => ?_);replace E0:=E0.upd hU hgo;replace j:=j.updN hU aa I;replace e:=e.upd hU J;rw [<- ev_drop z] at hF2;clear h;have h:=hF2;refine zAh (zN (zK (K5 [0,3,4,5,6] ?_)));exact rI (K8 rfl (ag (rl (zL (⟨rfl,k,⟨_,(kp rfl),zm oM oM,oM,E0,j,e,h⟩,oM⟩)))))
theorem sign_root (y:Rat):(y.num.sign==0)=decide (y=0):=by
 by_cases h:y=0
 . rw [h];rfl
 . rw [cU h];exact dk.2 (zFF h).2
theorem isRoot_ok {p:List Rat} (j:IsPoly w u p) (e:IsR w v x) (f:zJD p x):Ret prog 276 #[u,v] w (fun r _=>r = .bool (decide (ev p x=0))):=by
 obtain ⟨D,F,h,t,z⟩:=id e;subst h;refine J0 10 func276 rfl (rj ?_);refine K1 (zn (Z1 E0 e.ext fun b1 w1 E0 e hgb1 hB1=>ag (rM 9 ?_)));refine rJ (K1 (zh zAS rfl hB1 (cw rfl) (K1 (j0 E0 yB (zCA (j.ext E0) e f) fun ve w2 E0 N1=>K1 (j0 E0 yB (Sign_ok N1) fun vi w2 E0 f => ?_)))));subst f;refine K1 (zC (v := .bool (decide (ev p x=0))) rfl rfl (sB (sign_root _)) (ag (rm [4] ?_)));exact zE (en rfl E0 rfl)
theorem zDH:IsPoly w (.slice none 0 0) []:=⟨none,0,rfl,cX _,.inl rfl,di _⟩
def monR (p:Poly):Poly:=if trim p=[] then [] else trim ((trim p).map (· * (1/top (trim p))))
def shrR (p:Poly):Poly:=if trim p=[] then [] else trim ((trim p).map (· * (1/absR (top (trim p)))))
theorem zDQ {p:List Rat} (I:IsPoly w v p) (j:trim p≠[]->Room 1 (top (trim p))/\∀ i,Room ((trim p).getD i 0) (1/top (trim p))):Ret prog 274 #[v] w (fun r w'=>IsPoly w' r (monR p)):=by
 refine J0 18 func274 rfl (rj (ag (rM 1 ?_)));refine rJ (K1 (j0 E0 yB (zBS I) fun O w2 E0 J => ?_));obtain ⟨qp,qc,rfl,z,t,D⟩:=J;generalize f:trim p=q at *;refine ag (rM 1 ?_);refine zA (zA ?_);rcases (oM:q.length=0\/0<q.length) with h0 | h0
 . obtain rfl:q=[]:=fe.1 h0;refine rI (K1 (zG slice26 rfl (K1 (zC (v := .bool (true)) rfl rfl (sB (rfl)) (rS 129 ?_)))));refine wct rfl (rj (ag (rM 4 ?_)));refine zE (zU (zM ?_));exact ⟨rfl,_,zZ rfl rfl,E0,by unfold monR;rw [f,cD rfl];exact zDH⟩
 . have h:q≠[]:=eC.1 h0;obtain ⟨F,G⟩:=j h;refine rI (K1 (zG slice26 rfl (K1 (zC (v := .bool (false)) rfl rfl (sB (dk.2 oM)) (rS 129 ?_)))));refine wcf rfl (sk (zA (zAR none 10 [[0],[],[0],[0],[1],[1],[7,1],[1],[13,1],[17,1]] mixed kR fun K hK=>dM aL (dC (fun v w'=>IsR w' v (1)) (fun e hk=>zJ yB (CallK.of_ret (zDC (n:=1) dE) fun v w2 N j=>⟨N,zNF j⟩) rfl) (dM aL (dM aL (du (fun e hk=>zG slice26 hk.1 eR) (du (u := .int .i64 ((q.length-1:Nat):Int)) (fun e hk=>zC hk.1 rfl (sI ((zm oM oM).trans oM)) eR) (du (fun e hk=>runs_pindex (l:=q) (ix:=q.length-1) (t.ext e) hk.1 hk.2.1 oM eR) (dC (fun v w'=>IsR w' v (top q)) (fun e hk=>runs_pload (l:=q) (i:=q.length-1) (t.ext e) oM hk.1 fun _=>eX) (dl (fun e hk=>zNG hk.1 hk.2.1 F) (dl (fun e hk=>zDL (IsPoly.of_eq hk.1 ⟨qp,qc,rfl,z,t.ext e,D⟩) hk.2.1 (fun i _=>G i)) ?_))))))))))));refine zAJ (hK _ fun wq e => ?_);rintro _ rfl v9 N9 _ rfl _ rfl _ rfl v13 N13 v14 N14 v15 N15 v16 N16 v17 H;refine zY ?_;replace E0:=E0.trans e;refine ag (zAh (zK (K5 [2] ?_)));refine zE (zM ?_);exact ⟨rfl,_,zZ rfl rfl,E0,by unfold monR;rw [f,ct h];exact H⟩
theorem zIR {p:List Rat} (I:IsPoly w v p) (D:trim p≠[]->Room 1 (absR (top (trim p)))/\∀ i,Room ((trim p).getD i 0) (1/absR (top (trim p)))):Ret prog 351 #[v] w (fun r w'=>IsPoly w' r (shrR p)):=by
 refine J0 20 func351 rfl (rj (ag (rM 1 ?_)));refine rJ (K1 (j0 E0 yB (zBS I) fun O w2 E0 J => ?_));obtain ⟨qp,qc,rfl,f,z,h⟩:=J;generalize j:trim p=q at *;refine ag (rM 1 ?_);refine zA (zA ?_);rcases (oM:q.length=0\/0<q.length) with h0 | h0
 . obtain rfl:q=[]:=fe.1 h0;refine rI (K1 (zG slice26 rfl (K1 (zC (v := .bool (true)) rfl rfl (sB (rfl)) (rS 129 ?_)))));refine wct rfl (rJ (ag (rM 4 ?_)));refine zE (zU (zM ?_));exact ⟨rfl,_,zZ rfl rfl,E0,by unfold shrR;rw [j,cD rfl];exact ⟨qp,qc,rfl,f,z,h⟩⟩
 . have t:q≠[]:=eC.1 h0;obtain ⟨F,G⟩:=D t;refine rI (K1 (zG slice26 rfl (K1 (zC (v := .bool (false)) rfl rfl (sB (dk.2 oM)) (rS 129 ?_)))));refine wcf rfl (sk (zA (zAR none 11 [[0],[],[0],[0],[1],[1],[7,1],[1],[1],[15,1],[19,1]] mixed kR fun K hK=>dM aL (dC (fun v w'=>IsR w' v (1)) (fun e hk=>zJ yB (CallK.of_ret (zDC (n:=1) dE) fun v w2 N D=>⟨N,zNF D⟩) rfl) (dM aL (dM aL (du (fun e hk=>zG slice26 hk.1 eR) (du (u := .int .i64 ((q.length-1:Nat):Int)) (fun e hk=>zC hk.1 rfl (sI ((zm oM oM).trans oM)) eR) (du (fun e hk=>runs_pindex (l:=q) (ix:=q.length-1) (z.ext e) hk.1 hk.2.1 oM eR) (dC (fun v w'=>IsR w' v (top q)) (fun e hk=>runs_pload (l:=q) (i:=q.length-1) (z.ext e) oM hk.1 fun _=>eX) (dl (fun e hk=>zNj hk.1) (dl (fun e hk=>zNG hk.1 hk.2.1 F) ?_))))))))))));refine dl (fun e hk=>zDL (IsPoly.of_eq hk.1 ⟨qp,qc,rfl,f,z.ext e,h⟩) hk.2.1 (fun i _=>G i)) (zAJ (hK _ fun wq e => ?_));rintro _ rfl v10 N10 _ rfl _ rfl _ rfl v14 N14 v15 N15 v16 N16 v17 N17 v18 N18 v19 H;refine zY ?_;replace E0:=E0.trans e;refine ag (zAh (zK (K5 [2] ?_)));refine zE (zM ?_);exact ⟨rfl,_,zZ rfl rfl,E0,by unfold shrR;rw [j,ct t];exact H⟩
variable {Q:Poly} {i:Nat}
def Aft (a b:World):Prop:=Ext a b
theorem Aft.ext {a b c:World} (h:Aft a b) (e:Ext b c):Aft a c:=(show Ext a b from h).trans e
theorem Aft.upd {a b c:World} {x:Nat} (h:Aft a b) (e:Upd x b c) (f:a.heap.size<=x):Aft a c:=(show Ext a b from h).upd e f
theorem Aft.size {a b:World} (h:Aft a b):a.heap.size<=b.heap.size:=(show Ext a b from h).size
theorem selfX (_:Ext w w'):Aft w' w':=Ext.refl w'
theorem szX (_:Ext w w'):∃ s,s=w'.heap.size:=⟨_,rfl⟩
def dvRow (P Q:Poly) (i:Nat):Poly:=(List.range (P.length-1)).map fun k=>co P k-(if P.length-Q.length<=k/\k<P.length-Q.length+i then top P/top Q*co Q (k-(P.length-Q.length)) else 0)
def zFQ (P Q:Poly):Poly:=trim (dvRow P Q (Q.length-1))
def dvF:Nat->Poly->Poly->Poly->Poly×Poly
 | 0,P,_,O=>(O,P)
 | f+1,P,Q,O=>if P.length<Q.length then (O,P) else dvF f (zFQ P Q) Q (O.set (P.length-Q.length) (top P/top Q))
def zJC:Nat->Poly->Poly->Prop
 | 0,_,_=>True
 | f+1,P,Q=>Q.length<=P.length->Room (top P) (top Q)/\(∀ i,i+1<Q.length->Room (top P/top Q) (co Q i)/\Room (co P (P.length-Q.length+i)) (top P/top Q*co Q i))/\zJC f (zFQ P Q) Q
def dvR (p q:Poly):Poly×Poly:=dvF ((trim p).length+1) (trim p) (trim q) (List.replicate (trim p).length 0)
theorem zCt (P Q:Poly) (i:Nat):(dvRow P Q i).length=P.length-1:=by simp [dvRow]
theorem zIe (P Q:Poly):(zFQ P Q).length<=P.length-1:=by
 have:=zAV (dvRow P Q (Q.length-1));rw [zCt] at this;exact this
theorem dvRow_zero (P Q:Poly):dvRow P Q 0=P.take (P.length-1):=by
 refine gc (by rw [zCt,eW];omega) fun k e f => ?_;rw [zCt] at e;simp only [dvRow,List.getElem_map,List.getElem_range,List.getElem_take];rw [ct oM,zFK oM];grind
theorem dvRow_at {P:Poly} (h:P.length-Q.length+i<P.length-1):(dvRow P Q i).getD (P.length-Q.length+i) 0=co P (P.length-Q.length+i):=by
 show co (dvRow P Q i) _=_;unfold dvRow;rw [zDM,cD h,ct oM];grind
theorem dvRow_succ {P:Poly} (h:P.length-Q.length+i<P.length-1):(dvRow P Q i).set (P.length-Q.length+i) (co P (P.length-Q.length+i)-top P/top Q*co Q i)=dvRow P Q (i+1):=by
 refine zTj (by rw [ff,zCt,zCt]) fun k => ?_;rw [zDN (by rw [zCt];exact h)];unfold dvRow;rw [zDM,zDM];by_cases e:k=P.length-Q.length+i
 . rw [cD e,cD oM,cD oM,e,show P.length-Q.length+i-(P.length-Q.length)=i by omega]
 . rw [ct e];by_cases f:k<P.length-1
   . rw [cD f,cD f];by_cases j:P.length-Q.length<=k/\k<P.length-Q.length+i
     . rw [cD j,cD oM]
     . rw [ct j,ct oM]
   . rw [ct f,ct f]
def AwayP (x:Nat) (w:World) (v:Value) (l:List Rat):Prop:=(l=[]/\∃ a,v = .slice a 0 0)\/∃ b c,v = .slice (some ⟨b,0,none⟩) l.length c/\l.length<=c/\b≠x/\PBlk w b l
theorem zCT.away {sz x:Nat} (h:zCT sz w v l) (t:x<sz):AwayP x w v l:=by
 rcases h with h | ⟨b,c,e,f,z,j⟩
 . exact .inl h
 . exact .inr ⟨b,c,e,f,oM,j⟩
theorem zCT.away' {sz x:Nat} (h:zCT sz w v l) (t:w.heap.size<=x):AwayP x w v l:=by
 rcases h with h | ⟨b,c,f,j,z,e⟩
 . exact .inl h
 . exact .inr ⟨b,c,f,j,by have:=e.lt;omega,e⟩
theorem AwayP.ext {x:Nat} (h:AwayP x w v l) (e:Ext w w'):AwayP x w' v l:=by
 rcases h with h | ⟨b,c,f,j,t,z⟩
 . exact .inl h
 . exact .inr ⟨b,c,f,j,t,z.ext e⟩
theorem AwayP.upd {x:Nat} (h:AwayP x w v l) (f:Upd x w w') (j:Blk w x 50 cs):AwayP x w' v l:=by
 rcases h with h | ⟨b,c,t,z,e,D⟩
 . exact .inl h
 . exact .inr ⟨b,c,t,z,e,D.upd f j e⟩
theorem AwayP.form {x:Nat} (h:AwayP x w v l):∃ p c,v = .slice p l.length c/\l.length<=c:=by
 rcases h with ⟨rfl,a,rfl⟩ | ⟨b,c,rfl,e,-,-⟩
 . exact ⟨a,0,rfl,cX _⟩
 . exact ⟨_,c,rfl,e⟩
theorem AwayP.rd {x:Nat} {p:Option Addr} (h:AwayP x w (.slice p n c) l):PRd w p l:=by
 rcases h with ⟨rfl,-⟩ | ⟨b,j,e,t,-,f⟩
 . exact .inl rfl
 . cases e;exact f.rd
theorem PBlk.blk (h:PBlk w b l):∃ cs,Blk w b 50 cs:=by obtain ⟨cs,e,_⟩:=h;exact ⟨cs,e⟩
theorem zCT.form {sz:Nat} (h:zCT sz w v l):∃ p c,v = .slice p l.length c/\l.length<=c:=by
 rcases h with ⟨rfl,a,rfl⟩ | ⟨b,c,rfl,e,-,-⟩
 . exact ⟨a,0,rfl,cX _⟩
 . exact ⟨_,c,rfl,e⟩
theorem zCc {p q:List Rat} (hp:IsPoly w u p) (hq:IsPoly w v q) (av:trim q≠[]) (hr:zJC ((trim p).length+1) (trim p) (trim q)):Ret prog 210 #[u,v] w (fun r w'=>∃ a b,r = .tuple #[a,b]/\IsPoly w' a (trim (dvR p q).1)/\IsPoly w' b (dvR p q).2):=by
 have E0:Ext w w:=Ext.refl w;refine J0 81 func210 rfl (rj (ag (ag (rM 3 ?_))));refine rJ (K1 (j0 E0 yB (zHk hp) fun vp w2 E0 hP=>mv (K1 (j1 E0 hP.ext yB (zHk (hq.ext E0)) fun vq w2 E0 hP hQ => ?_))));obtain ⟨pp,V,rfl,Z⟩:=hP.form;obtain ⟨qp,qc,rfl,aX⟩:=hQ.form;have hplen:(trim p).length<=4096:=by obtain ⟨_,_,_,_,_,h4⟩:=hp;have:=zAV p;omega
 have aF:(trim q).length<=4096:=by obtain ⟨_,_,_,_,_,h4⟩:=hq;have:=zAV q;omega
 have aY:1<=(trim q).length:=eC.2 av;refine ag (ag (rM 3 ?_));refine rJ (K1 (zG slice26 rfl (ag (rM 67 ?_))));refine rJ (K1 (zG slice26 rfl ?_));have hszp:=E0.size;refine K1 (zAK zCr zKc rfl rfl rfl oM oM oM fun J w1 hb1 t Y hs => ?_);have hob:w.heap.size<=J:=by rw [hb1];exact hszp
 have F:=(hP.away' (dS hb1.symm)).ext t;have z:=(hQ.away' (dS hb1.symm)).ext t;replace E0:=E0.trans t;rw [show (((trim p).length:Nat):Int).toNat=(trim p).length from by omega] at Y ⊢;have D:=PBlk.zeros Y;clear Y;refine ag (rM 195 ?_);refine zA (zF (zX (X:=Poly×Poly×Nat) (fun X ρ w'=>match X with | (P,O,f)=>∃ pp V,Keep ρ [(0,.slice pp P.length V),(1,.slice qp (trim q).length qc),(6,.int .i64 (((trim q).length:Nat):Int)),(7,.slice (some ⟨J,0,none⟩) (trim p).length (trim p).length)]/\P.length<=(trim p).length/\Ext w w'/\P.length<=V/\AwayP J w' (.slice pp P.length V) P/\AwayP J w' (.slice qp (trim q).length qc) (trim q)/\O.length=(trim p).length/\PBlk w' J O/\dvF f P (trim q) O=dvR p q/\P.length<f/\zJC f P (trim q)) (fun X=>X.1.length) (trim p,List.replicate (trim p).length 0,(trim p).length+1) ⟨_,_,(kp rfl),cX _,E0,Z,F,z,sM,D,rfl,gv _,hr⟩ ?_));rintro ⟨P,O,f⟩ ρ1 w1 ⟨pp,V,j,aZ,E0,Z,F,z,ai,D,aa,hf,ad⟩;refine wpe_k _ j ?_;refine zA (rJ (K1 (zG slice26 rfl (mv (K8 rfl (rM 16777411 ?_))))));refine K0 rfl ?_ ?_<;>intro hc
 . have aw:(trim q).length<=P.length:=by have:=dh hc;omega
   obtain ⟨f',rfl⟩:∃ f',f=f'+1:=⟨f-1,oM⟩;rw [dvF,ct oM] at aa;obtain ⟨ax,ay,ad⟩:=ad aw;have hsl:=zIe P (trim q);refine sk (zF (rJ (K1 (zG slice26 rfl (mv (K1 (zAL (P.length-(trim q).length) rfl rfl oM oM (ag (rM 451 ?_)))))))));refine zA ?_;obtain ⟨SZ,az⟩:=szX E0;have ae:=selfX E0;have hs0:=E0.size;have hPA0:=F;have hQA0:=z;have hOB0:=D
   refine zGd [12] [] none 13 [[0],[0],[1],[1],[7,1],[1],[2],[12],[1],[5,1],[1],[11,1],[]] mixed kR (zEr.nil) fun K hK=>dM aL (dM aL (du (fun t j=>zG slice26 j.1 eR) (du (u := .int .i64 ((P.length-1:Nat):Int)) (fun t j=>zC j.1 rfl (sI ((zm oM oM).trans oM)) eR) (du (fun t j=>runs_pindex (l:=P) (ix:=P.length-1) (F.ext t).rd j.1 j.2.1 oM eR) (dC (fun v w'=>IsR w' v (top P)) (fun t j=>runs_pload (l:=P) (i:=P.length-1) (F.ext t).rd oM j.1 fun _=>eX) (dM aL (dM aL (du (u := .int .i64 (((trim q).length-1:Nat):Int)) (fun t j=>zC j.1 rfl (sI ((zm oM oM).trans oM)) eR) (du (fun t j=>runs_pindex (l:=trim q) (ix:=(trim q).length-1) (z.ext t).rd j.1 j.2.1 oM eR) (dC (fun v w'=>IsR w' v (top (trim q))) (fun t j=>runs_pload (l:=trim q) (i:=(trim q).length-1) (z.ext t).rd oM j.1 fun _=>eX) (dl (fun t j=>zNG j.1 j.2.1 ax) ?_)))))))))))
   refine dxn (fun v w'=>∃ b,v = .pointer (some ⟨b,0,none⟩)/\Blk w' b 50 [.int .i64 0,.slice none 0 0,.slice none 0 0]/\SZ<=b) (fun _ _ _ _ hx h=>(let ⟨b,e,Y,hg⟩:=h;⟨b,e,Y.ext hx.toExt,hg⟩)) (fun σ wx t j=>zR zero50 fun b w2 hb hX Y hs=>⟨hX,⟨b,rfl,Y,(by rw [hb,az];exact t.size)⟩,Xtra.new dE fun c hc=>(by cases hc;exact ⟨dS hb.symm,by show b<_;omega⟩)⟩) ?_;refine zAJ (hK _ fun wq t => ?_);rintro _ rfl _ rfl _ rfl v32 N32 v33 N33 v34 N34 _ rfl _ rfl v37 N37 v38 N38 v39 N39 v40 N40 v9 N9;refine zY ?_;intro hsep;obtain ⟨E0,F,z,D,ae⟩:=V4 t E0 F.ext z.ext D.ext ae.ext;obtain ⟨bc,rfl,aA,a0⟩:=N9;have hobc:J<bc:=by have:=hOB0.lt;omega
   refine K1 (runs_rstoreK rfl N40 (Cell3.of aA rfl) fun _ w9 I hC => ?_);have hE2:=ae.upd I oM;replace E0:=E0.upd I oM;clear F z D;have F:=hPA0.ext hE2;have z:=hQA0.ext hE2;have D:=hOB0.ext hE2;refine zAh (zK (K5 [0,1,6,7,8,9] ?_));refine rJ (mv (K1 (runs_rAt rfl hC fun v43 N43=>K1 (zDW (ix:=P.length-(trim q).length) rfl rfl oM ?_))));obtain ⟨a9,ah⟩:=D.blk;refine K1 (zBE (k:=P.length-(trim q).length) rfl rfl N43 D oM fun _ w5 I hOB2 => ?_);replace E0:=E0.upd I hob;replace F:=F.upd I ah;replace z:=z.upd I ah;replace hC:=hC.updN I ah oM;clear D;have D:=hOB2;refine rM 963 ?_;refine rj ?_;intro _;have G:=selfX E0;have E5:=E0;refine K1 (zCP zCr zGB fun b0 w1 hb0 t hs => ?_);obtain ⟨E0,G⟩:=V1 t E0 G.ext;refine mv (mv (K1 (zG slice26 rfl (K1 (zAL (b:=1) (P.length-1) rfl rfl oM oM (K1 (zBa slice26 rfl rfl oM oM ?_)))))));have hszA:=G.size;refine K1 (zIu (l:=P.take (P.length-1)) rfl (by rw [eW,dT oM];rfl) ((F.ext G).rd.take _) (by rw [eW];omega) fun vr0 w9 t H => ?_);replace H:=H.le hszA;obtain ⟨E0,G⟩:=V1 t E0 G.ext;rw [<- dvRow_zero P (trim q)] at H;refine ag (rM 1987 ?_);refine zA (rj (ag (rM 4035 ?_)))
   refine zF (zX (X:=Nat) (fun i ρ w'=>∃ vr,Keep ρ [(0,.slice pp P.length V),(1,.slice qp (trim q).length qc),(6,.int .i64 (((trim q).length:Nat):Int)),(7,.slice (some ⟨J,0,none⟩) (trim p).length (trim p).length),(8,.int .i64 ((P.length-(trim q).length:Nat):Int)),(9,.pointer (some ⟨bc,0,none⟩)),(10,vr),(11,.int .i64 ((i:Nat):Int))]/\i<=(trim q).length-1/\Ext w w'/\Aft w5 w'/\zCT w5.heap.size w' vr (dvRow P (trim q) i)) (fun i=>(trim q).length-i) 0 ⟨_,(kp rfl),di _,E0,G,H⟩ ?_);rintro i ρ2 w6 ⟨vr,j,ba,E0,G,H⟩;refine wpe_k _ j ?_;refine zA (rJ (mv (K1 (zAL (b:=1) ((trim q).length-1) rfl rfl oM oM (K8 rfl (rM 36028797018968003 ?_))))));refine K0 rfl ?_ ?_<;>intro hc
   . have aj:i<(trim q).length-1:=t_lt hc;obtain ⟨aB,aC⟩:=ay i oM;have ak:P.length-(trim q).length+i<P.length-1:=by omega
     have al:=zCt P (trim q) i;rcases H with ⟨he,-⟩ | ⟨rb,rc,rfl,aD,am,N⟩
     . exact absurd (cW List.length he) (by rw [al];simp;omega)
     refine sk (zA (zF (zAR none 17 [[20],[16],[22],[3,1],[20],[16],[22],[3,1],[7,1],[1],[18],[2],[22],[3,1],[1],[9,1],[13,1]] mixed kR fun K hK=>dM aL (dM aL (dM aL (du (fun t j=>zg (P.length-(trim q).length+i) j.1 j.2.1 rfl oM eR) (dM aL (dM aL (dM aL (du (fun t j=>zg (P.length-(trim q).length+i) j.1 j.2.1 rfl oM eR) (du (fun t j=>zDW j.1 j.2.1 oM eR) ?_)))))))))));refine dC (fun v w'=>IsR w' v (co P (P.length-(trim q).length+i))) (fun t j=>zCH (l:=dvRow P (trim q) i) (k:=P.length-(trim q).length+i) j.1 rfl (N.ext t) oM fun v h=>⟨Ext.refl _,by rw [dvRow_at ak] at h;exact h⟩) ?_;refine dc (fun t j=>runs_rAt j.1 (hC.ext (G.ext t)) fun _=>eX) (dM aL (dM aL (du (fun t j=>runs_pindex (l:=trim q) (ix:=i) (z.ext (G.ext t)).rd j.1 j.2.1 oM eR) (dC (fun v w'=>IsR w' v (co (trim q) i)) (fun t j=>runs_pload (l:=trim q) (i:=i) (z.ext (G.ext t)).rd oM j.1 fun _=>eX) (dl (fun t j=>Mul_ok j.1 j.2.1 aB) (dl (fun t j=>zQP j.1 j.2.1 aC) (zAJ (hK _ fun wq t => ?_))))))));rintro _ rfl _ rfl _ rfl _ rfl _ rfl _ rfl _ rfl _ rfl v66 N66 v67 N67 v68 N68 _ rfl _ rfl v71 N71 v72 N72 v73 N73 v74 N74;refine zY ?_;obtain ⟨E0,G,N⟩:=V2 t E0 G.ext N.ext
     refine K1 (zDW (ix:=P.length-(trim q).length+i) rfl rfl oM (K1 (zBE (k:=P.length-(trim q).length+i) rfl rfl N74 N oM fun _ w9 I U => ?_)));replace E0:=E0.upd I (by have:=E5.size;omega);replace G:=G.upd I am;rw [dvRow_succ ak] at U;have H:zCT _ _ _ (dvRow P (trim q) (i+1)) := .inr ⟨rb,rc,by rw [zCt,<- al],by rw [zCt];omega,am,U⟩;refine zAh (zN (zK (K5 [0,1,6,7,8,9,10,11] ?_)));exact rI (K8 rfl (ag (rl (zL (⟨rfl,i+1,⟨_,kw,oM,E0,G,H⟩,oM⟩)))))
   . have an:=f_lt hc;obtain rfl:i=(trim q).length-1:=by omega
     refine zT (zt (zf (zI (zK (K6 (mv ?_))))));obtain ⟨rp,rc,rfl,aD⟩:=H.form;have hobs:=fm D.lt G.size;refine K1 (zJ yB (CallK.of_ret (zHk (H.poly (by rw [zCt];omega))) fun ve w9 t T => ?_) rfl);obtain ⟨E0,G⟩:=V1 t E0 G.ext;replace T:AwayP J _ ve (zFQ P (trim q)):=T.away hobs;replace z:=z.ext G;replace D:=D.ext G;obtain ⟨ep,ec,rfl,aE⟩:=T.form;refine ag (rl (zN (zL ?_)));exact ⟨rfl,(zFQ P (trim q),O.set (P.length-(trim q).length) (top P/top (trim q)),f'),⟨ep,ec,(kp rfl),oM,E0,aE,T,z,by rw [ff];exact ai,D,aa,oM,ad⟩,by show (zFQ P (trim q)).length<P.length;omega⟩
 . have aj:P.length<(trim q).length:=by have:=de hc;omega
   have hR:dvR p q=(O,P):=by
    rw [<- aa];cases f with
    | zero=>omega
    | succ f=>rw [dvF,cD aj]
   refine zT (zt (zf (zI (zK (rj (mv ?_))))));refine K1 (j1 E0 F.ext yB (zBS (l:=O) ⟨some ⟨J,0,none⟩,(trim p).length,by rw [ai];rfl,oM,D.rd,oM⟩) fun va w9 E0 F hT => ?_);refine mv (ag (ag (rM 243 ?_)));refine zE (zM ?_);exact ⟨rfl,_,zv rfl rfl rfl,E0,_,_,rfl,by rw [hR];exact hT,by rw [hR];exact ⟨pp,V,rfl,Z,F.rd,by show P.length<=4096;omega⟩⟩
variable {C:List Poly} {K:Value->World->Prop} {af:Array Edge} {sz2:Nat} {g:Option (Nat×Bool)} {q:Poly} {pos:String} {r:Option Nat} {ty:TypeId} {σ:Operand->Value}
theorem zRo:prog.underlying 253=some (.slice 26):=kR
theorem zDb:zBH prog 253 26 1:=pU
theorem zGT:Plain prog 26:=pU
theorem info26':(prog.info? 26).map (fun i=>(i.zero,i.size))=some (some (.slice none 0 0),1):=kR
theorem row253:RowT prog 253 26 1:=⟨zRo,.slice none 0 0,24,kR,rfl,dE,dE⟩
def KeepB (E:TypeId) (w w':World):Prop:=∀ b T cs,T≠E->Blk w b T cs->Blk w' b T cs
theorem KeepB.isN {E:TypeId} (h:KeepB E w w') (e:E≠2) (f:IsN w v n):IsN w' v n:=by
 obtain ⟨p,ds,cap,j,t,z,D,F⟩:=f;refine ⟨p,ds,cap,j,t,fun i G => ?_,D,F⟩;obtain ⟨b,o,cs,H,I,J⟩:=z i G;exact ⟨b,o,cs,H,h b 2 cs (eH e) I,J⟩
theorem KeepB.isR {E:TypeId} (h:KeepB E w w') (e:E≠2) {q:Rat} (f:IsR w v q):IsR w' v q:=by
 obtain ⟨t,b,j,z,D⟩:=f;exact ⟨t,b,j,h.isN e z,h.isN e D⟩
theorem KeepB.poly {E:TypeId} (h:KeepB E w w') (j:E≠2) (f:E≠50) {l:Poly} (t:IsPoly w v l):IsPoly w' v l:=by
 obtain ⟨p,cap,z,D,e,F⟩:=t;refine ⟨p,cap,z,D,?_,F⟩;rcases e with e | ⟨b,o,cs,G,H,I,J⟩
 . exact .inl e
 . exact .inr ⟨b,o,cs,G,h b 50 cs (eH f) H,I,fun i N=>h.isR j (J i N)⟩
def ChB (sz:Nat) (w:World) (v:Value) (C:List Poly):Prop:=∃ e:List Value,e.length=C.length/\RowB 26 1 sz [] w v (e.map fun x=>[x])/\∀ i,i<C.length->IsPoly w (e.getD i (.slice none 0 0)) (C.getD i [])
def ChR (w:World) (v:Value) (C:List Poly):Prop:=∃ p c,v = .slice p C.length c/\∀ i,i<C.length->∃ b cs v,p=some ⟨b,0,none⟩/\Blk w b 26 cs/\cs[i]? = some v/\IsPoly w v (C.getD i [])
theorem ChB.nil {sz:Nat}:ChB sz w (.slice none 0 0) []:=⟨[],rfl,RowB.nil,fun i e=>absurd e (gF i)⟩
theorem ChB.ext {sz:Nat} (h:ChB sz w v C) (e:Ext w w'):ChB sz w' v C:=by
 obtain ⟨f,j,t,z⟩:=h;exact ⟨f,j,t.ext e,fun i D=>(z i D).ext e⟩
theorem ChR.ext (h:ChR w v C) (e:Ext w w'):ChR w' v C:=by
 obtain ⟨p,c,f,j⟩:=h;refine ⟨p,c,f,fun i t => ?_⟩;obtain ⟨b,cs,u,z,D,F,G⟩:=j i t;exact ⟨b,cs,u,z,D.ext e,F,G.ext e⟩
theorem ChB.rd {sz:Nat} (h:ChB sz w v C):ChR w v C:=by
 obtain ⟨f,t,z,D⟩:=h;obtain ⟨p,c,F,G⟩:=z.rd;refine ⟨p,c,by rw [F,dJ,t],fun i H => ?_⟩;obtain ⟨b,cs,I,J,N,j⟩:=G.at (i:=i) (by rw [dJ];omega);refine ⟨b,cs,f.getD i (.slice none 0 0),I,J,?_,D i H⟩;have hi':i<f.length:=oM
 rw [cC,fC,cY hi',eG] at j;have e:=cW (fun l=>l[0]?) j;simp only [fk,fN] at e;rw [cD dE,fw] at e;rw [e,cC,cY hi'];rfl
section laws
variable {d:Option Tmp}
theorem zIP {y:Operand} {p:Option Addr} (e:σ y = .slice p n c) (f:∀ v w',Ext w w'->zCY 26 w.heap.size [.slice p n c] v w'->K v w'):Runs prog r ⟨d,.buildSlice 253 1 #[(0,y)],ty,pos,af,g⟩ σ w K:=by
 refine zi (cs:=[.slice p n c]) zRo info26' dE dE ?_ fun b w' h j t z=>f _ _ j ⟨b,rfl,dS h.symm,t⟩;show Instr.fill _ _ [(0,σ y)]=_;rw [e]
 kernel_rfl
theorem zCY.ch {sz:Nat} {l:Poly} (h:zCY 26 sz [u] v w) (e:IsPoly w u l):ChB sz w v [l]:=by
 obtain ⟨b,rfl,f,j⟩:=h;refine ⟨[u],rfl,⟨fun r hr=>by rw [dI.1 hr];rfl,_,1,rfl,cX _,.inr ⟨b,_,rfl,f,sM,j,rfl,rfl⟩⟩,fun i hi => ?_⟩;have:i=0:=by simpa using hi
 subst this;exact e
theorem zIs {x y:Operand} {sz:Nat} {p:Option Addr} {l:Poly} (D:σ x=v) (F:ChB sz w v C) (G:zCY 26 sz2 [.slice p n c] (σ y) w) (H:IsPoly w (.slice p n c) l) (I:C.length<100000) (J:sz<=w.heap.size)
 (N:∀ h w',NearR 26 sz [] w w'->ChB sz w' h (C++[l])->K h w'):Runs prog r ⟨d,.call { callee := .builtin .append,args := #[x,y],argTypes := #[253,253] },ty,pos,af,g⟩ σ w K:=by
 obtain ⟨O,t,U,V⟩:=F;refine zDI row253 D U G rfl rfl (by rw [dJ,t];exact I) J sM fun h w' hN Y=>N h w' hN ⟨O++[.slice p n c],by simp [t],by rw [eK];exact Y,fun i Z => ?_⟩;have kp:KeepB 26 w w':=fun b T cs hT hb=>hN.blk b T cs (.inr (.inr hT)) hb;by_cases e:i<C.length
 . rw [cC,eS oM,<- cC,cC (l:=C++[l]),eS e,<- cC];exact kp.poly dE dE (V i e)
 . have z:i=C.length:=by rw [dN,gf] at Z;omega
   subst z;rw [cC,fJ oM,cC (l:=C++[l]),fJ oM,t,fM];exact kp.poly dE dE H
end laws
def zFh (p:Poly):Prop:=trim p≠[]->Room 1 (top (trim p))/\∀ i,Room ((trim p).getD i 0) (1/top (trim p))
def zMb (p:Poly):Prop:=trim p≠[]->Room 1 (absR (top (trim p)))/\∀ i,Room ((trim p).getD i 0) (1/absR (top (trim p)))
theorem zLr (p:Poly):Trimd (monR p):=by unfold monR;split<;>first | exact zEE | exact ze _
theorem zMP (p:Poly):Trimd (shrR p):=by unfold shrR;split<;>first | exact zEE | exact ze _
theorem monR_len (p:Poly):(monR p).length<=p.length:=by
 unfold monR;split
 . exact di _
 . have e:=zAV ((trim p).map (· * (1/top (trim p))));rw [dJ] at e;have:=zAV p;omega
theorem zRZ (p:Poly):(shrR p).length<=p.length:=by
 unfold shrR;split
 . exact di _
 . have e:=zAV ((trim p).map (· * (1/absR (top (trim p)))));rw [dJ] at e;have:=zAV p;omega
theorem zSQ {Q:Poly} (e:Q≠[]):∀ (f:Nat) (P O:Poly),P.length<f->(dvF f P Q O).2.length<Q.length
 | 0,P,O,h=>absurd h (gF _)
 | f+1,P,O,h=>by
  rw [dvF];split
  . assumption
  . have j:=zIe P Q;have h2:=eC.2 e;exact zSQ e f _ _ oM
theorem zSS (h:trim q≠[]):(dvR p q).2.length<(trim q).length:=zSQ h _ _ _ (gv _)
def gcF:Nat->Poly->Poly->Poly
 | 0,P,_=>P
 | f+1,P,Q=>if Q=[] then P else gcF f Q (monR (dvR P Q).2)
def zLU:Nat->Poly->Poly->Prop
 | 0,_,_=>True
 | f+1,P,Q=>Q≠[]->zJC ((trim P).length+1) (trim P) (trim Q)/\zFh (dvR P Q).2/\zLU f Q (monR (dvR P Q).2)
def gcR (p q:Poly):Poly:=gcF ((monR q).length+1) (monR p) (monR q)
theorem zFv {p q:List Rat} (U:IsPoly w u p) (V:IsPoly w v q) (I:zFh p) (J:zFh q) (Y:zLU ((monR q).length+1) (monR p) (monR q)):Ret prog 208 #[u,v] w (fun r w'=>IsPoly w' r (gcR p q)):=by
 refine J0 24 func208 rfl (rj (ag (rM 3 ?_)));refine rJ (K1 (j0 E0 yB (zDQ U I) fun vp w2 E0 e=>mv (K1 (j1 E0 e.ext yB (zDQ (V.ext E0) J) fun vq w2 E0 e h => ?_))));obtain ⟨pp,F,rfl,aj⟩:=id e;obtain ⟨qp,qc,rfl,ak⟩:=id h;refine ag (ag (rM 3 ?_));refine zA (zF (zX (X:=Poly×Poly×Nat) (fun X ρ w'=>match X with | (P,Q,f)=>∃ pp F qp qc,Keep ρ [(0,.slice pp P.length F),(1,.slice qp Q.length qc)]/\Ext w w'/\IsPoly w' (.slice pp P.length F) P/\IsPoly w' (.slice qp Q.length qc) Q/\Trimd Q/\gcF f P Q=gcR p q/\Q.length<f/\zLU f P Q) (fun X=>X.2.1.length) (monR p,monR q,(monR q).length+1) ⟨_,_,_,_,(kp rfl),E0,e,h,zLr q,rfl,gv _,Y⟩ ?_));rintro ⟨P,Q,f⟩ ρ1 w1 ⟨pp,F,qp,qc,Z,E0,e,h,z,G,hf,j⟩;refine wpe_k _ Z ?_;refine zA (rJ (K1 (zG slice26 rfl (K8 rfl (rM 8195 ?_)))));refine K0 rfl ?_ ?_<;>intro hc
 . have D:0<Q.length:=by have:=dh hc;omega
   have t:Q≠[]:=eC.1 D;have hne2:trim Q≠[]:=by rw [zo z];exact t
   obtain ⟨H,rfl⟩:∃ H,f=H+1:=⟨f-1,oM⟩;rw [gcF,ct t] at G;obtain ⟨N,O,j⟩:=j t;have hl1:=monR_len (dvR P Q).2;have hl2:=zSS (p:=P) hne2;rw [zo z] at hl2;refine sk (zF (rJ (mv (K1 (j2 E0 e.ext h.ext yB (zCc e h hne2 N) fun vd w2 E0 e h hd => ?_)))));obtain ⟨va,vb,rfl,ha,hb⟩:=hd;refine mv (xt rfl (xt rfl (ag (ag (rM 67 ?_)))))
   skip
   refine rI (mv (K1 (j2 E0 e.ext h.ext yB (zDQ hb O) fun vm w2 E0 e h T => ?_)));obtain ⟨np,nc,rfl,al⟩:=id T;refine ag (ag (rl (zN (zL ?_))));exact ⟨rfl,(Q,monR (dvR P Q).2,H),⟨qp,qc,np,nc,(kp rfl),E0,h,T,zLr _,G,oM,j⟩,by show (monR (dvR P Q).2).length<Q.length;omega⟩
 . have hz:Q=[]:=fe.1 (by have:=de hc;omega);have hR:gcR p q=P:=by
    rw [<- G];cases f with
    | zero=>omega
    | succ f=>rw [gcF,cD hz]
   refine zT (zt (zf (zI (zK (rJ (ag (rM 19 ?_)))))));refine zE (zM ?_);exact ⟨rfl,_,zZ rfl rfl,E0,by rw [hR];exact e⟩
def zIW (p:Poly):Prop:=∀ i,i+1<p.length->Room (p.getD (i+1) 0) ((i+1:Nat):Rat)
def zHM (p q:Poly):Prop:=zFh p/\zFh q/\zLU ((monR q).length+1) (monR p) (monR q)
def zFg (p q:Poly):Prop:=trim q≠[]/\zJC ((trim p).length+1) (trim p) (trim q)
def simR (p:Poly):Poly:=trim (dvR p (gcR p (derR p))).1
def zPV (p:Poly):Prop:=zIW p/\zHM p (derR p)/\zFg p (gcR p (derR p))
theorem zLK {p:List Rat} (e:IsPoly w v p) (F:zPV p):Ret prog 319 #[v] w (fun r w'=>IsPoly w' r (simR p)):=by
 obtain ⟨f,⟨h,j,t⟩,z,D⟩:=F;refine J0 15 func319 rfl (rj (ag (rM 1 ?_)));refine rJ (mv (mv (K1 (j0 E0 yB (zDr e f) fun vd w2 E0 hD=>K1 (j0 E0 yB (zFv (e.ext E0) hD h j t) fun vg w2 E0 hG=>K1 (j0 E0 yB (zCc (e.ext E0) hG z D) fun vq w2 E0 hq => ?_))))));obtain ⟨H,I,rfl,G,-⟩:=hq;refine mv (xt rfl (xt rfl (ag (ag (rM 8 ?_)))));refine zA ?_
 skip
 refine rI (ag (rS 4 ?_));exact zE (en rfl E0 G)
def negR (p:Poly):Poly:=trim (p.map (· * (-1:Rat)))
def chF:Nat->Poly->Poly->List Poly
 | 0,_,_=>[]
 | f+1,P,Q=>if Q=[] then [] else Q :: chF f Q (shrR (negR (dvR P Q).2))
def zNl:Nat->Poly->Poly->Prop
 | 0,_,_=>True
 | f+1,P,Q=>Q≠[]->zJC ((trim P).length+1) (trim P) (trim Q)/\(∀ i,Room ((dvR P Q).2.getD i 0) (-1))/\zMb (negR (dvR P Q).2)/\zNl f Q (shrR (negR (dvR P Q).2))
def chR (p q:Poly):List Poly:=shrR p :: chF ((shrR q).length+1) (shrR p) (shrR q)
def zFI (p q:Poly):Prop:=zMb p/\zMb q/\zNl ((shrR q).length+1) (shrR p) (shrR q)
theorem negR_len (p:Poly):(negR p).length<=p.length:=by
 have h:=zAV (p.map (· * (-1:Rat)))
 rw [dJ] at h;exact h
theorem zEs {p q:List Rat} (hp:IsPoly w u p) (hq:IsPoly w v q) (J:zFI p q):Ret prog 320 #[u,v] w (fun r w'=>ChB w.heap.size w' r (chR p q)):=by
 obtain ⟨F,U,J⟩:=J;refine J0 34 func320 rfl (rj (ag (rM 3 ?_)));refine rJ (K1 (j0 E0 yB (zIR hp F) fun vs w2 E0 hS => ?_));obtain ⟨sp,sc,rfl,ao⟩:=id hS;refine K1 (zIP rfl fun vo w7 hE hO => ?_);have e:=zCY.ch (hO.le E0.size) (hS.ext hE);replace E0:=E0.trans hE;refine ag (rM 35 ?_);refine zA ?_
 skip
 refine rI (K1 (j1 E0 e.ext yB (zIR (hp.ext E0) F) fun vp w2 E0 e j=>mv (K1 (j2 E0 j.ext e.ext yB (zIR (hq.ext E0) U) fun vq w2 E0 j e h => ?_))));obtain ⟨pp,I,rfl,ap⟩:=id j;obtain ⟨qp,qc,rfl,V⟩:=id h;have hql:(shrR q).length<=4096:=V.2.2;refine ag (ag (rS 35 ?_));refine zA (zF ?_);refine zX (X:=Poly×Poly×List Poly×Nat) (fun X ρ w'=>match X with | (P,Q,C,f)=>∃ pp I qp qc vo,Keep ρ [(0,.slice pp P.length I),(1,.slice qp Q.length qc),(5,vo)]/\Ext w w'/\IsPoly w' (.slice pp P.length I) P/\IsPoly w' (.slice qp Q.length qc) Q/\Trimd Q/\ChB w.heap.size w' vo C/\C.length+Q.length<=5000/\C++chF f P Q=chR p q/\Q.length<f/\zNl f P Q) (fun X=>X.2.1.length) (shrR p,shrR q,[shrR p],(shrR q).length+1) ⟨_,_,_,_,_,(kp rfl),E0,j,h,zMP q,e,by simp;omega,rfl,gv _,J⟩ ?_;rintro ⟨P,Q,C,f⟩ ρ1 w1 ⟨pp,I,qp,qc,vo,hk,E0,j,h,G,e,aq,N,hf,t⟩;refine wpe_k _ hk ?_;refine zA (rJ (K1 (zG slice26 rfl (K8 rfl (rM 131107 ?_)))));refine K0 rfl ?_ ?_<;>intro hc
 . have H:0<Q.length:=by have:=dh hc;omega
   have z:Q≠[]:=eC.1 H;have hne2:trim Q≠[]:=by rw [zo G];exact z
   obtain ⟨O,rfl⟩:∃ O,f=O+1:=⟨f-1,oM⟩;rw [chF,ct z] at N;obtain ⟨Y,Z,aa,t⟩:=t z;have hl1:=zRZ (negR (dvR P Q).2);have hl3:=negR_len (dvR P Q).2;have hl2:=zSS (p:=P) hne2;rw [zo G] at hl2;refine sk (zF (rJ (mv (K1 (zIP rfl fun vo2 w7 hE hO => ?_)))));obtain ⟨E0,j,h,e⟩:=V3 hE E0 j.ext h.ext e.ext;refine K1 (zIs rfl e hO h oM E0.size fun vo3 w8 hN hA2 => ?_);have kp:KeepB 26 _ w8:=fun b T cs hT D=>hN.blk b T cs (.inr (.inr hT)) D;replace E0:=hN.ext _ (cX _) E0;replace j:=kp.poly dE dE j;replace h:=kp.poly dE dE h;clear e kp;have e:=hA2;refine ag (rM 35 ?_);refine rJ (mv (K1 (j3 E0 j.ext h.ext e.ext yB (zCc j h hne2 Y) fun vd w2 E0 j h e hd => ?_)));obtain ⟨va,vb,rfl,ha,D⟩:=hd;refine mv (xt rfl (xt rfl (ag (ag (rM 163 ?_)))))
   skip
   refine rI (mv (K1 (j4 E0 j.ext h.ext e.ext D.ext yB (zQL) fun ar w2 E0 j h e D hm=>K1 (j2 E0 h.ext e.ext yB (zDL D hm (fun i _=>Z i)) fun v31 w2 E0 h e hs => ?_))));replace hs:IsPoly _ _ (negR (dvR P Q).2):=hs;refine K1 (j2 E0 h.ext e.ext yB (zIR hs aa) fun vm w2 E0 h e hM => ?_);obtain ⟨np,nc,rfl,au⟩:=id hM;refine ag (ag (rl (zN (zL ?_))));exact ⟨rfl,(Q,shrR (negR (dvR P Q).2),C++[Q],O),⟨qp,qc,np,nc,_,(kp rfl),E0,h,hM,zMP _,e,by rw [dN,gf];omega,by rw [dU];exact N,oM,t⟩,by show (shrR (negR (dvR P Q).2)).length<Q.length;omega⟩
 . have hz:Q=[]:=fe.1 (by have:=de hc;omega);have hR:chR p q=C:=by
    rw [<- N];cases f with
    | zero=>omega
    | succ f=>rw [chF,cD hz,fu]
   refine zT (zt (zf (zI (zK (rJ (ag (rM 19 ?_)))))));refine zE (zM ?_);exact ⟨rfl,_,zZ rfl rfl,E0,by rw [hR];exact e⟩
def stuR (p:Poly):List Poly:=chR (simR p) (derR (simR p))
def zMc (p:Poly):Prop:=zPV p/\zIW (simR p)/\zFI (simR p) (derR (simR p))
theorem zNc {p:List Rat} (t:IsPoly w v p) (z:zMc p):Ret prog 263 #[v] w (fun r w'=>ChR w' r (stuR p)):=by
 obtain ⟨f,h,j⟩:=z;refine J0 9 func263 rfl (rj (ag (rM 1 ?_)));refine rJ (K1 (j0 E0 yB (zLK t f) fun vs w2 E0 e=>ag (rM 1 ?_)));refine zA ?_
 skip
 refine rI (mv (K1 (j1 E0 e.ext yB (zDr e h) fun F w2 E0 e D=>K1 (j0 E0 yB (zEs e D j) fun vc w2 E0 hC=>ag (rS 4 ?_)))));exact zE (en rfl E0 hC.rd)
variable {E cap ix len:Nat} {P:Program}
theorem zRn:prog.underlying 120=some (.slice 3):=kR
theorem zIS:zBH prog 120 3 1:=pU
theorem info3s:(prog.info? 3).map (fun i=>(i.zero,i.size))=some (some (.int .i64 0),1):=kR
theorem row120:RowT prog 120 3 1:=⟨zRn,.int .i64 0,8,kR,rfl,dE,dE⟩
theorem KeepB.rat {E:TypeId} (h:KeepB E w w') (f:E≠2) (e:E≠50) {q:Rat} (j:RAt b q w):RAt b q w':=by
 obtain ⟨cs,t,z,D⟩:=j;exact ⟨cs,h b 50 cs (eH e) t,z,h.isR f D⟩
theorem zIV (h:0<n) (e:n<=4096):IntKind.i64.wrap ((n:Int)-1)=((n-1:Nat):Int):=by rw [zm oM oM];omega
def ir (s:Int):List Value:=[.int .i64 s]
def SgB (sz:Nat) (w:World) (v:Value) (L:List Int):Prop:=RowB 3 1 sz [] w v (L.map ir)
def SgR (w:World) (v:Value) (L:List Int):Prop:=∃ p c,v = .slice p L.length c/\∀ i,i<L.length->∃ b cs,p=some ⟨b,0,none⟩/\Blk w b 3 cs/\cs[i]? = some (.int .i64 (L.getD i 0))
theorem SgB.ext {sz:Nat} {L:List Int} (h:SgB sz w v L) (e:Ext w w'):SgB sz w' v L:=RowB.ext h e
theorem SgR.ext {L:List Int} (h:SgR w v L) (e:Ext w w'):SgR w' v L:=by
 obtain ⟨p,c,f,j⟩:=h;refine ⟨p,c,f,fun i t => ?_⟩;obtain ⟨b,cs,z,D,F⟩:=j i t;exact ⟨b,cs,z,D.ext e,F⟩
theorem SgB.rd {sz:Nat} {L:List Int} (h:SgB sz w v L):SgR w v L:=by
 obtain ⟨p,c,j,t⟩:=RowB.rd h;refine ⟨p,c,by rw [j,dJ],fun i e => ?_⟩;obtain ⟨b,cs,z,D,F,f⟩:=t.at (i:=i) (by rw [dJ];omega);refine ⟨b,cs,z,D,?_⟩;rw [cC,fC,cY e,eG] at f;have g5:=cW (fun l=>l[0]?) f;simp only [fk,fN] at g5;rw [cD dE,fw] at g5;rw [g5,cC,cY e];rfl
section laws
variable {d:Option Tmp}
theorem zBh {T:Nat} {x i:Operand} {k:IntKind} (e:zBH P T E n) (f:σ x = .slice (some ⟨b,0,none⟩) len cap) (h:σ i = .int k (ix:Int)) (t:ix<len) (j:K (.pointer (some ⟨b,n*ix,none⟩)) w):Runs P r ⟨d,.indexAddr T x i,ty,pos,af,g⟩ σ w K:=by
 refine zH e f h oM oM ?_;rw [show 0+((ix:Nat):Int).toNat*n=n*ix from by rw [dW,fS,dm]];exact j
theorem zIO {y:Operand} {s:Int} (e:σ y = .int .i64 s) (f:∀ v w',Ext w w'->zCY 3 w.heap.size (ir s) v w'->K v w'):Runs prog r ⟨d,.buildSlice 120 1 #[(0,y)],ty,pos,af,g⟩ σ w K:=by
 refine zi (cs:=ir s) zRn info3s dE dE ?_ fun b w' h j t z=>f _ _ j ⟨b,rfl,dS h.symm,t⟩;show Instr.fill _ _ [(0,σ y)]=_;rw [e]
 kernel_rfl
theorem zGv {x y:Operand} {sz:Nat} {L:List Int} {s:Int} (j:σ x=v) (t:SgB sz w v L) (z:zCY 3 sz2 (ir s) (σ y) w) (D:L.length<100000) (F:sz<=w.heap.size)
 (G:∀ f w',NearR 3 sz [] w w'->SgB sz w' f (L++[s])->K f w'):Runs prog r ⟨d,.call { callee := .builtin .append,args := #[x,y],argTypes := #[120,120] },ty,pos,af,g⟩ σ w K :=
 zDI row120 j t z rfl rfl (by rw [dJ];exact D) F sM fun f w' H I=>G f w' H (by unfold SgB;rw [eK];exact I)
end laws
def Sg (s:Int):Prop:=s=0\/s=1\/s = -1
theorem sg_mul {a b:Int} (e:Sg a) (f:Sg b) : -1<=a*b/\a*b<=1/\(a*b<0↔(a=1/\b = -1)\/(a = -1/\b=1)):=by
 rcases e with rfl | rfl | rfl<;>rcases f with rfl | rfl | rfl<;>decide
theorem zQA (x:Rat):Sg x.num.sign:=by
 rcases sign3 x with h | h | h
 . exact .inr (.inl h)
 . exact .inr (.inr h)
 . exact .inl h
theorem zIc {l:List Int} (h:i<l.length):l.drop i=l.getD i 0 :: l.drop (i+1):=by
 rw [dZ h];simp [h]
theorem zGf {L:List Int} (F:SgR w v L) (J:∀ i,i<L.length->Sg (L.getD i 0)) (hl:L.length<=100000):Ret prog 317 #[v] w (fun r _=>r = .int .i64 (flipL L 0 0)):=by
 obtain ⟨pp,N,rfl,O⟩:=F;refine J0 31 func317 rfl (rj (ag (rM 1 ?_)));refine rj (ag (ag (rM 25 ?_)));refine zA (rj (ag (rM 57 ?_)));refine zF (zX (X:=Nat) (fun i ρ w'=>∃ n f,Keep ρ [(0,.slice pp L.length N),(3,.int .i64 n),(4,.int .i64 f),(5,.int .i64 ((i:Nat):Int))]/\i<=L.length/\Ext w w'/\flipL (L.drop i) f n=flipL L 0 0/\0<=n/\n<=(i:Int)/\Sg f) (fun i=>L.length-i) 0 ⟨_,_,(kp rfl),di _,E0,rfl,ia _,ia _,.inl rfl⟩ ?_);rintro i ρ1 w1 ⟨n,f,T,U,E0,j,V,Y,z⟩;refine wpe_k _ T ?_;refine zA (rJ (mv (K1 (zG zIS rfl (K8 rfl (rM 569 ?_))))));refine K0 rfl ?_ ?_<;>intro hc
 . have t:i<L.length:=t_lt hc;obtain ⟨pb,cs,rfl,I,F⟩:=O i t;have hB:=I.ext E0;have hs:=J i t;rw [zIc t,flipL] at j;generalize L.getD i 0=s at *;refine sk (zA (zF (zA (rJ (mv (K1 (zBh zIS rfl rfl t ?_)))))));refine K1 (zD zAT rfl hB (by rw [eG];exact F) ?_);refine K1 (zC (v := .bool (decide (s=0))) rfl rfl (sB (by by_cases h:s=0<;>simp [h])) ?_);refine rM 65593 ?_;refine K0 rfl ?_ ?_<;>intro hc
   . have H:s=0:=dh hc;rw [cD H] at j;exact zT (zt (zI (zK (rI (K8 rfl (ag (rl (zL (⟨rfl,i+1,⟨_,_,kw,oM,E0,j,oM,oM,z⟩,oM⟩)))))))))
   . have H:¬ s=0:=de hc;rw [ct H] at j;obtain ⟨Z,aa,G⟩:=sg_mul z hs;refine sk (zA (rJ (mv (mv (K1 (zBh zIS rfl rfl t ?_))))));refine K1 (zD zAT rfl hB (by rw [eG];exact F) ?_);refine K1 (zC (v := .int .i64 (f*s)) rfl rfl (sI (zm oM oM)) (K1 (zC (v := .bool (decide (f*s<0))) rfl rfl (sB (rfl)) (rM 8388665 ?_))));refine K0 rfl ?_ ?_<;>intro hc
     . have D:f*s<0:=dh hc;rw [cD (G.1 D)] at j;refine rI (K1 (zC (v := .int .i64 (n+1)) rfl rfl (sI (zm oM oM)) (ag (rS 57 ?_))));replace z:=hs;refine rI (mv (K1 (zBh zIS rfl rfl t ?_)));refine K1 (zD zAT rfl hB (by rw [eG];exact F) ?_);refine ag (rl (zN (zK (K5 [0,3,4,5] ?_))));exact rI (K8 rfl (ag (rl (zL (⟨rfl,i+1,⟨_,_,kw,oM,E0,j,oM,oM,z⟩,oM⟩)))))
     . have D:¬ f*s<0:=de hc;rw [ct fun e=>D (G.2 e)] at j;refine sk ?_;replace z:=hs;refine rI (mv (K1 (zBh zIS rfl rfl t ?_)));refine K1 (zD zAT rfl hB (by rw [eG];exact F) ?_);refine ag (rl (zN (zK (K5 [0,3,4,5] ?_))));exact rI (K8 rfl (ag (rl (zL (⟨rfl,i+1,⟨_,_,kw,oM,E0,j,oM,oM,z⟩,oM⟩)))))
 . have ad:=f_lt hc;obtain rfl:i=L.length:=by omega
   rw [eO,flipL] at j;refine zT (zt (zf (zI (zK (rJ (ag (rM 61 ?_)))))));exact zE (en rfl E0 (cW (Value.int .i64) j))
def sgn (p:Poly) (x:Rat):Int:=(ev p x).num.sign
theorem zRa (G:ChR w u C) (H:IsR w v x) (U:∀ i,i<C.length->zJD (C.getD i []) x) (hl:C.length<=50000):Ret prog 318 #[u,v] w (fun r w'=>SgB w.heap.size w' r (C.map fun p=>sgn p x)):=by
 obtain ⟨pp,V,rfl,Y⟩:=G;obtain ⟨xn,xd,J,z,D⟩:=id H;subst J;refine J0 24 func318 rfl (rj ?_);refine K1 (zn (Z3 E0 H.ext z.ext D.ext fun I w1 E0 H z D hgb1 N=>ag (rM 9 ?_)));refine zA ?_;have j:RAt I x _:=⟨_,N,rfl,H⟩;refine K6 (ag (rS 41 ?_));refine zA (rj (ag (rM 105 ?_)));refine zF (zX (X:=Nat) (fun i ρ w'=>∃ vo,Keep ρ [(0,.slice pp C.length V),(3,.pointer (some ⟨I,0,none⟩)),(5,vo),(6,.int .i64 ((i:Nat):Int))]/\i<=C.length/\Ext w w'/\RAt I x w'/\SgB w.heap.size w' vo ((C.take i).map fun p=>sgn p x)) (fun i=>C.length-i) 0 ⟨_,(kp rfl),di _,E0,j,RowB.nil⟩ ?_);rintro i ρ1 w1 ⟨vo,e,ae,E0,j,t⟩;refine wpe_k _ e ?_;refine zA (rJ (mv (K1 (zG zDb rfl (K8 rfl (rM 1129 ?_))))));refine K0 rfl ?_ ?_<;>intro G
 . have f:i<C.length:=t_lt G;obtain ⟨pb,ah,Z,rfl,O,hv,F⟩:=Y i f;have hroom:=U i f;have hCi:C.getD i []=C[i]:=by rw [cC,cY f];rfl
   rw [hCi] at F hroom;refine sk (zA (zF (zAR none 9 [[10],[0],[12],[3,1],[1],[6],[3,1],[1],[1]] mixed kR fun K hK=>dM aL (dM aL (dM aL (du (fun hE e=>zBh zDb e.1 e.2.1 f eR) ?_))))));refine du (u:=Z) (fun hE e=>zD zGT e.1 ((O.ext E0).ext hE) (by rw [eG];exact hv) eR) ?_;refine dc (fun hE e=>runs_rAt e.1 (j.ext hE) fun _=>eX) (dl (fun hE e=>zCA (IsPoly.of_eq e.1 ((F.ext E0).ext hE)) e.2.1 hroom) (dL (fun v _=>v = .int .i64 (sgn C[i] x)) (fun hE e=>Sign_ok e.1) (dC (fun v w'=>zCY 3 0 (ir (sgn C[i] x)) v w') (fun hE e=>zIO e.1 fun v w2 j h=>⟨j,h.le (di _)⟩) (zAJ (hK _ fun wq hE => ?_)))));rintro _ rfl _ rfl _ rfl v16 N16 v17 N17 v18 N18 v19 N19 v20 N20 v21 N21;refine zY ?_;obtain ⟨E0,j,t⟩:=V2 hE E0 j.ext t.ext;refine K1 (zGv rfl t N21 (by simp;omega) E0.size fun vo3 w8 hN hA2 => ?_);have kp:KeepB 3 _ w8:=fun b T cs hT hb=>hN.blk b T cs (.inr (.inr hT)) hb;replace E0:=hN.ext _ (cX _) E0;replace j:=kp.rat dE dE j;clear t;have t:=hA2;refine ag (zAh (zN (zK (K5 [0,3,5,6] ?_))));refine rI (K8 rfl (ag (rl (zL ?_))));exact ⟨rfl,i+1,⟨_,kw,oM,E0,j,by rw [dG f,eK];exact t⟩,oM⟩
 . have ai:=f_lt G;obtain rfl:i=C.length:=by omega
   rw [ej] at t;refine zT (zt (zf (zI (zK (rJ (ag (rM 89 ?_)))))));exact zE (en rfl E0 t)
theorem zKb {m:Bool} (G:ChR w u C) (O:∀ i,i<C.length->C.getD i []≠[]) (hl:C.length<=50000):Ret prog 323 #[u,.bool m] w (fun r w'=>SgB w.heap.size w' r (C.map (endS m))):=by
 obtain ⟨pp,U,rfl,V⟩:=G;refine J0 44 func323 rfl (rj (ag (rM 3 ?_)));refine rj (ag (rM 35 ?_));refine zA (rj (ag (rM 99 ?_)));refine zF (zX (X:=Nat) (fun i ρ w'=>∃ vo,Keep ρ [(0,.slice pp C.length U),(1,.bool m),(5,vo),(6,.int .i64 ((i:Nat):Int))]/\i<=C.length/\Ext w w'/\SgB w.heap.size w' vo ((C.take i).map (endS m))) (fun i=>C.length-i) 0 ⟨_,(kp rfl),di _,E0,RowB.nil⟩ ?_);rintro i ρ1 w1 ⟨vo,f,Y,E0,h⟩;refine wpe_k _ f ?_;refine zA (rJ (mv (K1 (zG zDb rfl (K8 rfl (rM 2147 ?_))))));refine K0 rfl ?_ ?_<;>intro G
 . have j:i<C.length:=t_lt G;obtain ⟨pb,Z,pv,rfl,t,H,D⟩:=V i j;have hne:=O i j;have hCi:C.getD i []=C[i]:=by rw [cC,cY j];rfl
   rw [hCi] at D hne;obtain ⟨q,z⟩:∃ q,C[i]=q:=⟨_,rfl⟩;rw [z] at D hne;obtain ⟨qp,qc,rfl,aa,N,J⟩:=D;have hq0:=eC.2 hne;refine sk (zA (zF (zA (zAR none 13 [[0],[12],[3,1],[1],[0],[12],[3,1],[1],[1],[1],[13,1],[1],[1]] mixed kR fun K hK=>dM aL (dM aL (du (fun hE f=>zBh zDb f.1 f.2.1 j eR) ?_))))));refine du (u := .slice qp q.length qc) (fun hE f=>zD zGT f.1 ((t.ext E0).ext hE) (by rw [eG];exact H) eR) ?_;refine dM aL (dM aL (du (fun hE f=>zBh zDb f.1 f.2.1 j eR) ?_));refine du (u := .slice qp q.length qc) (fun hE f=>zD zGT f.1 ((t.ext E0).ext hE) (by rw [eG];exact H) eR) ?_;refine du (fun hE f=>zG slice26 f.1 eR) (du (u := .int .i64 ((q.length-1:Nat):Int)) (fun hE f=>zC f.1 rfl (sI (zIV hq0 J)) eR) (du (fun hE f=>runs_pindex (l:=q) (ix:=q.length-1) ((N.ext E0).ext hE) f.1 f.2.1 oM eR) (dC (fun v w'=>IsR w' v (top q)) (fun hE f=>runs_pload (l:=q) (i:=q.length-1) ((N.ext E0).ext hE) oM f.1 fun _=>eX) (dL (fun v _=>v = .int .i64 (rsign (top q))) (fun hE f=>Sign_ok f.1) (zAJ (hK _ fun wq hE => ?_))))));rintro _ rfl _ rfl v16 N16 v17 N17 _ rfl _ rfl v20 N20 v21 N21 _ rfl v23 N23 v24 N24 v25 N25 v26 N26;refine zY ?_;obtain ⟨E0,h⟩:=V1 hE E0 h.ext;subst N26
   refine ag (zAh (zK (K5 [0,1,5,6,7] ?_)));refine zA (zA ?_);rcases (show m=false\/(m=true/\q.length%2=0)\/(m=true/\q.length%2=1) by rcases fy q.length with a | a<;>cases m<;>simp [a]) with F | ⟨F,I⟩ | ⟨F,I⟩
   . subst F;have he:endS false q=rsign (top q):=ct (fun e=>absurd e.1 dE);refine rI (mv (K3 (K3 (K3 (K3 (K3 (K3 (K3 (pc0 rfl (rS 136902082787 ?_))))))))));refine wcf rfl (sk (rI (mv (K1 (zIO rfl fun vo2 w7 hE hO => ?_)))));obtain ⟨E0,h⟩:=V1 hE E0 h.ext;rw [<- he] at hO;refine K1 (zGv rfl h hO (by simp;omega) E0.size fun vo3 w8 hN hA2 => ?_);have kp:KeepB 3 _ w8:=fun b T cs hT hb=>hN.blk b T cs (.inr (.inr hT)) hb;replace E0:=hN.ext _ (cX _) E0;clear h;have h:=hA2;refine ag (rl (zN (zK (K5 [0,1,5,6,29,30,31,32,33,34,35] ?_))));refine rI (K8 rfl (ag (rl (zL ?_))));exact ⟨rfl,i+1,⟨_,kw,oM,E0,by rw [dG j,eK,z];exact h⟩,oM⟩
   . subst F;have he:endS true q = - rsign (top q):=cD ⟨rfl,I⟩;have hsn:IntKind.i64.wrap (0-rsign (top q)) = - rsign (top q):=(zNa _ (sign3 _)).1;refine rI (mv (K7 (K7 (K2 (zBh zDb rfl rfl j ?_)))));refine K2 (zD zGT rfl (t.ext E0) (by rw [eG];exact H) ?_);refine K2 (zG slice26 rfl (K2 (zAE (b:=2) (q.length%2) rfl rfl dE rfl ?_)));refine K2 (zC (v := .bool (true)) rfl rfl (sB (by rw [I];rfl)) ?_);refine pc0 rfl (rS 136902082787 ?_);refine wct rfl (rI (K1 (zEQ rfl ?_)));rw [hsn];refine ag (rS 68182606051 ?_);refine rI (mv (K1 (zIO rfl fun vo2 w7 hE hO => ?_)));obtain ⟨E0,h⟩:=V1 hE E0 h.ext;rw [<- he] at hO;refine K1 (zGv rfl h hO (by simp;omega) E0.size fun vo3 w8 hN hA2 => ?_);have kp:KeepB 3 _ w8:=fun b T cs hT hb=>hN.blk b T cs (.inr (.inr hT)) hb;replace E0:=hN.ext _ (cX _) E0;clear h;have h:=hA2;refine ag (rl (zN (zK (K5 [0,1,5,6,29,30,31,32,33,34,35] ?_))));refine rI (K8 rfl (ag (rl (zL ?_))));exact ⟨rfl,i+1,⟨_,kw,oM,E0,by rw [dG j,eK,z];exact h⟩,oM⟩
   . subst F;have he:endS true q=rsign (top q):=ct (fun e=>by have:=e.2;omega);refine rI (mv (K7 (K7 (K2 (zBh zDb rfl rfl j ?_)))));refine K2 (zD zGT rfl (t.ext E0) (by rw [eG];exact H) ?_);refine K2 (zG slice26 rfl (K2 (zAE (b:=2) (q.length%2) rfl rfl dE rfl ?_)));refine K2 (zC (v := .bool (false)) rfl rfl (sB (by rw [I];rfl)) ?_);refine pc0 rfl (rS 136902082787 ?_);refine wcf rfl (sk (rI (mv (K1 (zIO rfl fun vo2 w7 hE hO => ?_)))));obtain ⟨E0,h⟩:=V1 hE E0 h.ext;rw [<- he] at hO;refine K1 (zGv rfl h hO (by simp;omega) E0.size fun vo3 w8 hN hA2 => ?_);have kp:KeepB 3 _ w8:=fun b T cs hT hb=>hN.blk b T cs (.inr (.inr hT)) hb;replace E0:=hN.ext _ (cX _) E0;clear h;have h:=hA2;refine ag (rl (zN (zK (K5 [0,1,5,6,29,30,31,32,33,34,35] ?_))));refine rI (K8 rfl (ag (rl (zL ?_))));exact ⟨rfl,i+1,⟨_,kw,oM,E0,by rw [dG j,eK,z];exact h⟩,oM⟩
 . have ad:=f_lt G;obtain rfl:i=C.length:=by omega
   rw [ej] at h;refine zT (zt (zf (zI (zK (rJ (ag (rM 83 ?_)))))));exact zE (en rfl E0 h)
variable {M a:Nat}
theorem zEO:∀ (l:List Int) (e n:Int),n<=flipL l e n/\flipL l e n<=n+l.length
 | [],e,n=>by rw [flipL];simp
 | s :: l,e,n=>by
  rw [flipL,et];split
  . have:=zEO l e n;omega
  . split
    . have:=zEO l s (n+1);omega
    . have:=zEO l s n;omega
theorem zRW {f:Poly->Int} (e:∀ p,Sg (f p)):∀ i,i<(C.map f).length->Sg ((C.map f).getD i 0):=fun i hi=>by
 rw [dJ] at hi;rw [cC,fC,cY hi];exact e _
theorem zUF (m:Bool) (p:Poly):Sg (endS m p):=by
 unfold endS;have h:=zQA (top p);split
 . rcases h with h | h | h
   . exact .inl (by show -(top p).num.sign=0;rw [h];rfl)
   . exact .inr (.inr (by show -(top p).num.sign = -1;rw [h]))
   . exact .inr (.inl (by show -(top p).num.sign=1;rw [h];rfl))
 . exact h
theorem ChR.of_eq (e:u=v) (h:ChR w v C):ChR w u C:=e ▸ h
def cntR (C:List Poly) (e f:Rat):Int:=flipL (C.map fun p=>sgn p e) 0 0-flipL (C.map fun p=>sgn p f) 0 0
theorem zQm {A B:List Int} (e:A.length<=50000) (f:B.length<=50000):IntKind.i64.wrap (flipL A 0 0-flipL B 0 0)=flipL A 0 0-flipL B 0 0:=by
 have h:=zEO A 0 0;have h2:=zEO B 0 0;exact zm oM oM
theorem counted_ok {c:Value} {z D:Rat} (T:ChR w c C) (j:IsR w u z) (t:IsR w v D) (I:∀ i,i<C.length->zJD (C.getD i []) z) (J:∀ i,i<C.length->zJD (C.getD i []) D) (U:C.length<=50000):Ret prog 262 #[c,u,v] w (fun r _=>r = .int .i64 (cntR C z D)):=by
 obtain ⟨xn,xd,N,V,Y⟩:=id j;obtain ⟨yn,yd,O,Z,aa⟩:=id t;subst N;subst O;refine J0 16 func262 rfl (rj ?_);refine K1 (zn (Z2 E0 j.ext t.ext fun b1 w1 E0 j t hgb1 h => ?_));refine K1 (zn (Z3a E0 j.ext t.ext h.ext h.lt fun b2 w2 E0 j t h hgb2 ne_b1_b2 F=>ag (rM 49 ?_)));refine zA (zAR none 9 [[0],[8],[3,1],[1],[0],[10],[3,1],[1],[9,1]] mixed kR fun K hK=>dM aL (dC (fun v w'=>IsR w' v (z)) (fun f e=>zh zAS e.1 (h.ext f) (cw rfl) ⟨Ext.refl _,j.ext f⟩) (dC (fun v w'=>SgR w' v (C.map fun p=>sgn p z)) (fun f e=>zJ yB (CallK.of_ret (zRa (ChR.of_eq e.1 ((T.ext E0).ext f)) e.2.1 I U) fun v w2 G H=>⟨G,H.rd⟩) rfl) ?_)));refine dL (fun v _=>v = .int .i64 (flipL (C.map fun p=>sgn p z) 0 0)) (fun f e=>zGf e.1 (zRW fun p=>zQA _) (by rw [dJ];omega)) ?_;refine dM aL (dC (fun v w'=>IsR w' v (D)) (fun f e=>zh zAS e.1 (F.ext f) (cw rfl) ⟨Ext.refl _,t.ext f⟩) (dC (fun v w'=>SgR w' v (C.map fun p=>sgn p D)) (fun f e=>zJ yB (CallK.of_ret (zRa (ChR.of_eq e.1 ((T.ext E0).ext f)) e.2.1 J U) fun v w2 G H=>⟨G,H.rd⟩) rfl) ?_));refine dL (fun v _=>v = .int .i64 (flipL (C.map fun p=>sgn p D) 0 0)) (fun f e=>zGf e.1 (zRW fun p=>zQA _) (by rw [dJ];omega)) ?_
 refine du (u := .int .i64 (cntR C z D)) (fun f e=>zC e.1 e.2.1 (sI (zQm (by rw [dJ];omega) (by rw [dJ];omega))) eR) ?_;refine zAJ (hK _ fun wq f => ?_);rintro _ rfl v8 N8 v9 N9 v10 N10 _ rfl v12 N12 v13 N13 v14 N14 v15 N15;refine zY ?_;obtain ⟨E0,j,t,h,F⟩:=V4 f E0 j.ext t.ext h.ext F.ext;refine ag (zAh (zK (K5 [6] ?_)));exact zE (en rfl E0 N15)
theorem zRz:∀ (f:Nat) (P Q:Poly),(chF f P Q).length<=f
 | 0,_,_=>di _
 | f+1,P,Q=>by
  rw [chF];split
  . exact di _
  . have:=zRz f Q (shrR (negR (dvR P Q).2));rw [et];omega
theorem zMn (p q:Poly):(chR p q).length<=q.length+2:=by
 unfold chR;have e:=zRz ((shrR q).length+1) (shrR p) (shrR q);have h2:=zRZ q;rw [et];omega
theorem zQs {p q:List Rat} (F:IsPoly w u p) (z:IsPoly w v q) (h:zFI p q) (D:∀ i,i<(chR p q).length->(chR p q).getD i []≠[]):Ret prog 279 #[u,v] w (fun r _=>r = .int .i64 (dif (chR p q))):=by
 refine J0 16 func279 rfl (rj (ag (rM 3 ?_)));refine rJ (mv (K1 (j0 E0 yB (zEs F z h) fun G w2 E0 t => ?_)));have e:=t.rd;have hcl:(chR p q).length<=50000:=by have:=zMn p q;obtain ⟨_,_,_,_,_,H⟩:=z;omega
 refine ag (rm [5] ?_);refine zA ?_
 skip
 refine rI (K1 (j1 E0 e.ext yB (zKb (m:=true) e D hcl) fun j w2 E0 e f => ?_));replace f:=f.rd;refine K1 (j1 E0 e.ext yB (zGf f (zRW (zUF true)) (by rw [dJ];omega)) fun j w2 E0 e h => ?_);subst h;refine mv (K1 (j1 E0 e.ext yB (zKb (m:=false) e D hcl) fun j w2 E0 e f => ?_));replace f:=f.rd;refine K1 (j1 E0 e.ext yB (zGf f (zRW (zUF false)) (by rw [dJ];omega)) fun j w2 E0 e h => ?_);subst h;refine K1 (zC (v := .int .i64 (dif (chR p q))) rfl rfl (sI (zQm (by rw [dJ];omega) (by rw [dJ];omega))) ?_);refine ag (rs [4] ?_);exact zE (en rfl E0 rfl)
def mostR (p:Poly):Nat->Rat
 | 0=>0
 | k+1=>maxR (mostR p k) (absR (co p k))
def bndR (p:Poly):Rat:=mostR (monR p) ((monR p).length-1)+1
def zMW (p:Poly):Prop:=zFh p/\(∀ k,k<(monR p).length-1->Room (mostR (monR p) k) (absR (co (monR p) k)))/\Room (mostR (monR p) ((monR p).length-1)) 1
theorem bound_ok {p:List Rat} (hp:IsPoly w v p) (H:zMW p):Ret prog 322 #[v] w (fun r w'=>IsR w' r (bndR p)):=by
 obtain ⟨J,N,O⟩:=H;have E0:Ext w w:=Ext.refl w;refine J0 25 func322 rfl (rj ?_);refine K1 (zR zero50 (Z0 E0 fun G w1 E0 hgb1 hB1=>rM 5 ?_));refine zA ?_;have e:Cell3 G _:=Cell3.of hB1 rfl;refine rI (K1 (j2 E0 e.ext hB1.ext yB (zDQ (hp.ext E0) J) fun vq w2 E0 e hB1 hQ => ?_));obtain ⟨qp,qc,rfl,ae,z,ah⟩:=hQ;have h:=selfX E0;refine ag (rS 5 ?_);refine zA ?_
 skip
 refine K6 (K1 (zV (cs := #[.int .i64 0,.slice none 0 0,.slice none 0 0]) kR ?_));have T:=E0.size;refine K1 (zR zero50 fun t w7 hbo hE hBo hs => ?_);have hne:G≠t:=by have:=hB1.lt;omega
 have D:w.heap.size<=t:=by rw [hbo];exact T
 have F:w2.heap.size<=t:=dS hbo.symm;obtain ⟨E0,h,e⟩:=V2 hE E0 h.ext e.ext;refine K1 (runs_rstoreK rfl IsR.zero (Cell3.of hBo rfl) fun _ w9 hU j => ?_);replace h:=h.upd hU F;replace E0:=E0.upd hU D;replace e:=e.upd hU hne;refine rS 13 ?_;refine zA (rj (ag (rM 29 ?_)));refine zF (zX (X:=Nat) (fun i ρ w'=>Keep ρ [(0,.slice qp (monR p).length qc),(2,.pointer (some ⟨G,0,none⟩)),(3,.pointer (some ⟨t,0,none⟩)),(4,.int .i64 ((i:Nat):Int))]/\i<=(monR p).length-1/\Ext w w'/\Aft w2 w'/\Cell3 G w'/\RAt t (mostR (monR p) i) w') (fun i=>(monR p).length-i) 0 ⟨(kp rfl),di _,E0,h,e,j⟩ ?_);rintro i ρ1 w3 ⟨f,ai,E0,h,e,j⟩;refine wpe_k _ f ?_;refine zA (rJ (mv (K1 (zG slice26 rfl (K1 (zC (v := .int .i64 (((monR p).length:Int)-1)) rfl rfl (sI (zm oM oM)) (K8 rfl (rM 4125 ?_))))))));refine K0 rfl ?_ ?_<;>intro hc
 . have U:i<(monR p).length-1:=by have:=dh hc;omega
   refine sk (zA (zF (zAR none 7 [[6],[0],[8],[3,1],[1],[1],[11,1]] mixed kR fun K I=>dc (fun hE f=>runs_rAt f.1 (j.ext hE) fun _=>eX) (dM aL (dM aL (du (fun hE f=>runs_pindex (l:=monR p) (ix:=i) (z.ext (h.ext hE)) f.1 f.2.1 oM eR) (dC (fun v w'=>IsR w' v (co (monR p) i)) (fun hE f=>runs_pload (l:=monR p) (i:=i) (z.ext (h.ext hE)) oM f.1 fun _=>eX) (dl (fun hE f=>zNj f.1) (dl (fun hE f=>zTZ f.1 f.2.1 (N i U)) (zAJ (I _ fun wq hE => ?_)))))))))));rintro v15 N15 _ rfl _ rfl v18 N18 v19 N19 v20 N20 v21 N21;refine zY ?_;obtain ⟨E0,h,e,j⟩:=V3 hE E0 h.ext e.ext j.ext;refine K1 (runs_rstoreK rfl N21 j.cell fun _ w9 hU hF2 => ?_);replace E0:=E0.upd hU D;replace h:=h.upd hU F;replace e:=e.upd hU hne;clear j;have j:=hF2;refine zAh (zN (zK (K5 [0,2,3,4] ?_)));exact rI (K8 rfl (ag (rl (zL (⟨rfl,i+1,⟨kw,oM,E0,h,e,j⟩,oM⟩)))))
 . have aj:¬ i<(monR p).length-1:=by have:=de hc;omega
   obtain rfl:i=(monR p).length-1:=oM
   refine zT (zt (zf (zI (zK (zA (zAR none 3 [[6],[],[3,1]] mixed kR fun K I=>dc (fun hE f=>runs_rAt f.1 (j.ext hE) fun _=>eX) (dC (fun v w'=>IsR w' v (1)) (fun hE f=>zJ yB (CallK.of_ret (zDC (n:=1) dE) fun v w2 hX H=>⟨hX,zNF H⟩) rfl) (dl (fun hE f=>zFH f.1 f.2.1 O) (zAJ (I _ fun wq hE => ?_))))))))));rintro v22 N22 v23 N23 v24 N24;refine zY ?_;obtain ⟨E0,h,e,j⟩:=V3 hE E0 h.ext e.ext j.ext;refine K1 (runs_rstoreK rfl N24 e fun _ w9 hU hN => ?_);replace E0:=E0.upd hU hgb1;obtain ⟨cs,V,Y,Z⟩:=hN;refine zAh (zK (K5 [0,2,3,4] ?_));exact zE (zM ⟨rfl,_,zq rfl rfl rfl zAS V Y,E0,Z⟩)
theorem zNO (k:Nat):((2^k:Nat):Rat).num.natAbs=2^k/\((2^k:Nat):Rat).den=1:=by
 rw [Rat.num_natCast,Rat.den_natCast];exact ⟨rfl,rfl⟩
theorem sz_pow (k:Nat):sz ((2^k:Nat):Rat)=k:=by
 unfold sz;rw [(zNO k).1,(zNO k).2,Nat.log2_two_pow,show Nat.log2 1=0 from by decide];rfl
theorem pow_shift {K:Nat} (h:k<=K) (e:K<400000000000):Fit ((2^k:Nat):Rat).num.natAbs/\Fits (((2^k:Nat):Rat).num.natAbs*2^1)/\Fits ((2^k:Nat):Rat).den:=by
 unfold Fit Fits;rw [(zNO k).1,(zNO k).2,Nat.pow_one,<- dB,Nat.log2_two_pow,Nat.log2_two_pow,show Nat.log2 1=0 from by decide];omega
theorem rcmp_lt (x y:Rat):decide (rcmpI x y<0)=decide (x<y):=by
 unfold rcmpI;by_cases h:x<y
 . rw [cD h,cZ h];rfl
 . rw [ct h,cU h];split<;>rfl
theorem pow_lt (h:((2^a:Nat):Rat)<((2^b:Nat):Rat)):a<b:=by
 have e:2^a<2^b:=by exact_mod_cast h
 exact (gr dE).1 e
theorem start_ok {p:List Rat} (V:IsPoly w v p) (Y:zMW p) (Z:M<400000000000) (ae:bndR p<=((2^M:Nat):Rat)) (ah:sz (bndR p)<400000000000):Ret prog 277 #[v] w (fun r w'=>∃ k,k<=M/\IsR w' r ((2^k:Nat):Rat)/\bndR p<=((2^k:Nat):Rat)):=by
 have E0:Ext w w:=Ext.refl w;refine J0 13 func277 rfl (rj ?_);refine K1 (zR zero50 (Z0 E0 fun H w1 E0 hgb1 hB1=>rM 5 ?_));refine zA ?_;have e:Cell3 H _:=Cell3.of hB1 rfl;refine K6 (K1 (j2 E0 e.ext hB1.ext yB (zDC (n:=1) dE) fun v4 w2 E0 e hB1 I => ?_));have hs0:=E0.size;refine K1 (zR zero50 fun z w7 hbo hE hBo hs => ?_);have hne:H≠z:=by have:=hB1.lt;omega
 have D:w.heap.size<=z:=by rw [hbo];exact hs0
 obtain ⟨E0,I,e⟩:=V2 hE E0 I.ext e.ext;refine K1 (runs_rstoreK rfl I (Cell3.of hBo rfl) fun _ J t f => ?_);replace E0:=E0.upd t D;replace e:=e.upd t hne;replace f:RAt z ((2^0:Nat):Rat) J:=f;refine rS 13 ?_;refine zA (zF (zX (X:=Nat) (fun k ρ w'=>Keep ρ [(0,v),(2,.pointer (some ⟨H,0,none⟩)),(3,.pointer (some ⟨z,0,none⟩))]/\k<=M/\Ext w w'/\Cell3 H w'/\RAt z ((2^k:Nat):Rat) w') (fun k=>M-k) 0 ⟨(kp rfl),di _,E0,e,f⟩ ?_));rintro k ρ1 w3 ⟨j,F,E0,e,f⟩;refine wpe_k _ j ?_;refine zA (zA (zAe [[6],[0],[1],[5,1],[1]] mixed kR fun K hK=>dc (fun hE j=>runs_rAt j.1 (f.ext hE) fun _=>eX) (dM aL (dcp (fun v w'=>IsR w' v (bndR p)) (fun _ _ _ _ hx h=>h.ext hx.toExt) (fun σ wx hE j=>zJ yB (CallK.of_ret (bound_ok (IsPoly.of_eq j.1 ((V.ext E0).ext hE)) Y) fun v w2 hX hr=>⟨hX,hr⟩) rfl) ?_))));refine dL (fun v _=>v = .int .i64 (rcmpI ((2^k:Nat):Rat) (bndR p))) (fun hE j=>zEI j.1 j.2.1 (by unfold Room;rw [sz_pow];omega)) ?_;refine du (u := .bool (decide (((2^k:Nat):Rat)<bndR p))) (fun hE j=>zC j.1 rfl (sB (rcmp_lt _ _)) eR) (zAJ (hK _ fun wq hE => ?_));rintro v5 N5 _ rfl v7 N7 v8 N8 v9 N9;refine zY ?_;obtain ⟨E0,e,f⟩:=V2 hE E0 e.ext f.ext;subst N9;refine zK (K5 [0,2,3,9] ?_);refine K0 rfl ?_ ?_<;>intro hc
 . have ai:((2^k:Nat):Rat)<bndR p:=dh hc;have hkK2:k<M:=pow_lt gR;refine sk (zF (K6 (K1 (runs_rAt rfl f fun v10 N10=>K1 (j2 E0 e.ext f.ext yB (Shift_ok (k:=1) N10 dE (pow_shift F Z)) fun v11 w2 E0 e f N11 => ?_)))))
   try clear N10
   refine K1 (runs_rstoreK rfl N11 f.cell fun _ J t G => ?_);replace E0:=E0.upd t D;replace e:=e.upd t hne;rw [show ((2^k:Nat):Rat)*((2^1:Nat):Rat)=((2^(k+1):Nat):Rat) from by rw [<- Rat.natCast_mul,<- eM]] at G;clear f;have f:=G;exact rl (zN (zL (⟨rfl,k+1,⟨(kp rfl),oM,E0,e,f⟩,oM⟩)))
 . have N:¬ ((2^k:Nat):Rat)<bndR p:=de hc;refine zT (zt (zf (zI (zK (rj (K1 (runs_rAt rfl f fun v12 N12=>K1 (runs_rstoreK rfl N12 e fun _ J t hN => ?_))))))));replace E0:=E0.upd t hgb1;obtain ⟨cs,O,T,U⟩:=hN;refine rM 12 ?_;exact zE (zM ⟨rfl,_,zq rfl rfl rfl zAS O T,E0,k,F,U,Rat.not_lt.1 N⟩)
def lnL (x y:Poly):Poly->Poly×Poly
 | []=>([],[])
 | a :: l=>(trim (addR (psubR (trim (mulR (lnL x y l).1 x)) (trim (mulR (lnL x y l).2 y))) [a]),trim (addR (trim (mulR (lnL x y l).1 y)) (trim (mulR (lnL x y l).2 x))))
theorem zLi {l:Poly} (h:i<l.length):l.drop i=l.getD i 0 :: l.drop (i+1):=by
 rw [dZ h];simp [h]
theorem zQt {x y:Poly} (h:k<p.length):lnL x y (p.drop k)=(trim (addR (psubR (trim (mulR (lnL x y (p.drop (k+1))).1 x)) (trim (mulR (lnL x y (p.drop (k+1))).2 y))) [p.getD k 0]),trim (addR (trim (mulR (lnL x y (p.drop (k+1))).1 y)) (trim (mulR (lnL x y (p.drop (k+1))).2 x)))):=by
 rw [zLi h,lnL]
theorem lnL_dropR {x y:Poly} (h:k<p.length) (e:IsPoly w v (trim (addR (psubR (trim (mulR (lnL x y (p.drop (k+1))).1 x)) (trim (mulR (lnL x y (p.drop (k+1))).2 y))) [p.getD k 0]))):IsPoly w v (lnL x y (p.drop k)).1:=by
 rw [zQt h];dsimp only;exact e
theorem lnL_dropI {x y:Poly} (h:k<p.length) (e:IsPoly w v (trim (addR (trim (mulR (lnL x y (p.drop (k+1))).1 y)) (trim (mulR (lnL x y (p.drop (k+1))).2 x))))):IsPoly w v (lnL x y (p.drop k)).2:=by
 rw [zQt h];dsimp only;exact e
def zJE (x y:Poly):Poly->Prop
 | []=>True
 | a :: l=>(lnL x y l).1.length<=4000/\(lnL x y l).2.length<=4000/\zFi (lnL x y l).1 x/\zFi (lnL x y l).2 y/\zFi (lnL x y l).1 y/\zFi (lnL x y l).2 x/\(∀ i,Room ((trim (mulR (lnL x y l).1 x)).getD i 0) ((trim (mulR (lnL x y l).2 y)).getD i 0)) /\
  (∀ i,Room ((trim (mulR (lnL x y l).1 y)).getD i 0) ((trim (mulR (lnL x y l).2 x)).getD i 0))/\(∀ i,Room ((psubR (trim (mulR (lnL x y l).1 x)) (trim (mulR (lnL x y l).2 y))).getD i 0) (([a]:Poly).getD i 0))/\zJE x y l
theorem zKg {x y:Poly}:∀ {p:Poly} (k:Nat),zJE x y p->zJE x y (p.drop k)
 | p,0,h=>h
 | [],k+1,h=>by rw [List.drop_nil];exact h
 | a :: l,k+1,h=>zKg (p:=l) k h.2.2.2.2.2.2.2.2.2
theorem zPm {G H:Value} {p x y:List Rat} (V:IsPoly w v p) (O:IsPoly w G x) (T:IsPoly w H y) (am:x.length<=50) (an:y.length<=50) (Y:zJE x y p):Ret prog 278 #[v,G,H] w (fun r w'=>∃ a b,r = .tuple #[a,b]/\IsPoly w' a (lnL x y p).1/\IsPoly w' b (lnL x y p).2):=by
 obtain ⟨pp,Z,rfl,ao,U,ap⟩:=V;refine J0 44 func278 rfl (rj (ag (ag (rM 7 ?_))));refine rj (ag (ag (rM 775 ?_)));refine zA (rJ (K1 (zG slice26 rfl (K8 rfl (ag (rM 1799 ?_))))));refine zF ?_;refine zX (X:=Nat) (fun k ρ w'=>∃ m I J,Keep ρ [(0,.slice pp p.length Z),(1,G),(2,H),(8,I),(9,J),(10,.int .i64 m)]/\m=(k:Int)-1/\k<=p.length/\Ext w w'/\IsPoly w' I (lnL x y (p.drop k)).1/\IsPoly w' J (lnL x y (p.drop k)).2) (fun k=>k) p.length ⟨_,_,_,(kp rfl),zm oM oM,cX _,E0,by rw [eO];exact zDH,by rw [eO];exact zDH⟩ ?_;rintro k ρ1 w1 ⟨m,I,J,hk,hm,aq,E0,e,f⟩;refine wpe_k _ hk ?_;refine zA (zA ?_);rcases k with _ | k
 . skip
   refine rI (K1 (zC (v := .bool (false)) rfl rfl (sB (cU oM)) (rS 132871 ?_)));refine wcf rfl (zT (zt (zf (zI (zK (rJ (mv (ag (ag (rM 1217 ?_))))))))));exact zE (zM ⟨rfl,_,zv rfl rfl rfl,E0,_,_,rfl,e,f⟩)
 . obtain rfl:m=(k:Int):=by omega
   have j:k<p.length:=oM
   have F:=zKg k Y;rw [zLi j] at F;obtain ⟨g1,g2,r1,r2,r3,r4,r5,r6,r7,-⟩:=F;refine rI (K1 (zC (v := .bool (true)) rfl rfl (sB (cZ oM)) (rS 132871 ?_)));refine wct rfl (sk (zA (zF (rJ (mv (K1 (j2 E0 e.ext f.ext yB (zDi e (O.ext E0) oM r1) fun N w2 E0 e f t=>mv (mv (K1 (j3 E0 e.ext f.ext t.ext yB (zDi f (T.ext E0) oM r2) fun N w2 E0 e f t N2=>K1 (j2 E0 e.ext f.ext yB (zHP t N2 r5) fun vu w2 E0 e f z=>ag (rM 3847 ?_))))))))))));refine zA ?_
   skip
   refine rI (mv (K1 (j3 E0 e.ext f.ext z.ext yB (zDi e (T.ext E0) oM r3) fun N w2 E0 e f z t=>mv (mv (K1 (j4 E0 e.ext f.ext z.ext t.ext yB (zDi f (O.ext E0) oM r4) fun N w2 E0 e f z t N2=>K1 (j3 E0 e.ext f.ext z.ext yB (zHO t N2 (fun i _=>r6 i)) fun vv w2 E0 e f z h=>ag (rS 7175 ?_))))))))
   skip
   refine rI (mv (mv (K1 (runs_pindex (l:=p) (ix:=k) (U.ext E0) rfl rfl j (K1 (runs_pload (l:=p) (i:=k) (U.ext E0) j rfl fun vn t=>K1 (zEC t fun v4 w4 hE N4 => ?_)))))));obtain ⟨E0,z,h⟩:=V2 hE E0 z.ext h.ext;refine K1 (j1 E0 h.ext yB (zHO z N4.poly (fun i _=>r7 i)) fun vw w2 E0 h D => ?_);replace D:=lnL_dropR j D;replace h:=lnL_dropI j h;refine mv (ag (ag (rl (zN (zK (K5 [0,1,2,8,9,10] ?_))))));exact rI (K8 rfl (ag (rl (zL (⟨rfl,k,⟨_,_,_,(kp rfl),zm oM oM,oM,E0,D,h⟩,oM⟩)))))
def reR (p:Poly):Poly:=(lnL [] [0,1] (trim p)).1
def imR (p:Poly):Poly:=(lnL [] [0,1] (trim p)).2
def turnR (p:Poly):Int:=if ((trim p).length-1)%2=0 then-dif (chR (reR p) (imR p)) else dif (chR (imR p) (reR p))
def rgtR (p:Poly):Int:=((((trim p).length-1:Nat):Int)-turnR p).tdiv 2
def zPU (p:Poly):Prop:=1<=(trim p).length/\zJE [] [0,1] (trim p)/\(((trim p).length-1)%2=0->zFI (reR p) (imR p)/\∀ i,i<(chR (reR p) (imR p)).length->(chR (reR p) (imR p)).getD i []≠[]) /\
 (((trim p).length-1)%2=1->zFI (imR p) (reR p)/\∀ i,i<(chR (imR p) (reR p)).length->(chR (imR p) (reR p)).getD i []≠[])
theorem zNe (x:Int) : -(x.natAbs:Int)<=x.tdiv 2/\x.tdiv 2<=x.natAbs:=by
 rcases Int.le_total 0 x with h | h
 . rw [fK h];omega
 . obtain ⟨y,rfl⟩:∃ y,x = -y:=⟨-x,oM⟩;rw [Int.neg_tdiv,fK oM];omega
theorem zTk (c:List Poly) : -(c.length:Int)<=dif c/\dif c<=c.length:=by
 have e:=zEO (c.map (endS true)) 0 0;have h2:=zEO (c.map (endS false)) 0 0;rw [dJ] at e h2;unfold dif zAv;omega
theorem rightOf_ok {p:List Rat} (N:IsPoly w v p) (t:zPU p):Ret prog 212 #[v] w (fun r _=>r = .int .i64 (rgtR p) /\ -100000<=rgtR p/\rgtR p<=100000):=by
 obtain ⟨O,G,H,I⟩:=t;refine J0 34 func212 rfl (rj (ag (rM 1 ?_)));refine rJ (K1 (j0 E0 yB (zBS N) fun vt w2 E0 h => ?_));obtain ⟨qp,qc,rfl,Y,Z,J⟩:=id h;refine ag (rM 1 ?_);refine zA ?_
 skip
 refine rI (K1 (zG slice26 rfl (K1 (zC (v := .int .i64 (((trim p).length-1:Nat):Int)) rfl rfl (sI (zIV O J)) (ag (rS 9 ?_))))));refine rJ (K1 (zV (cs := #[.int .i64 0,.slice none 0 0,.slice none 0 0]) kR (K1 (j1 E0 h.ext yB (zDC (n:=1) dE) fun aa w2 E0 h T=>K1 (R.runs_two (p:=0) (q:=1) (by exact IsR.zero) (by exact zNF T) fun v16 w7 hE hY => ?_)))));obtain ⟨E0,h⟩:=V1 hE E0 h.ext;refine K1 (j0 E0 yB (zPm h zDH hY sM sM G) fun vl w2 E0 hl => ?_);obtain ⟨U,V,rfl,z,D⟩:=hl;replace z:IsPoly _ U (reR p):=z;replace D:IsPoly _ V (imR p):=D;refine mv (xt rfl (xt rfl (ag (ag (rM 56 ?_)))));refine zA ?_;have hla:(reR p).length<=4096:=by obtain ⟨_,_,_,_,_,F⟩:=z;exact F
 have ad:(imR p).length<=4096:=by obtain ⟨_,_,_,_,_,F⟩:=D;exact F
 refine K6 (ag (rS 56 ?_));refine zA (zA ?_);rcases fy ((trim p).length-1) with j | j
 . obtain ⟨e,f⟩:=H j;have ht:turnR p = - dif (chR (reR p) (imR p)):=cD j;have hd:=zTk (chR (reR p) (imR p));have hcl:=zMn (reR p) (imR p);refine rI (K1 (zAE (b:=2) (((trim p).length-1)%2) rfl rfl dE rfl ?_));refine K1 (zC (v := .bool (true)) rfl rfl (sB (by rw [j];rfl)) ?_);refine rS 4194360 ?_;refine wct rfl (rI (mv (K1 (j0 E0 yB (zQs z D e f) fun vi w2 E0 t => ?_))));subst t;refine K1 (zEQ rfl ?_);rw [show IntKind.i64.wrap (0-dif (chR (reR p) (imR p)))=turnR p from by rw [ht,zm oM oM];omega];refine ag (rS 72 ?_);refine rJ (mv (K1 (zC (v := .int .i64 ((((trim p).length-1:Nat):Int)-turnR p)) rfl rfl (sI (zm oM oM)) ?_)));have htb:=zNe ((((trim p).length-1:Nat):Int)-turnR p);refine K1 (zCI rfl rfl dE ?_);rw [show IntKind.i64.wrap (((((trim p).length-1:Nat):Int)-turnR p).tdiv 2)=rgtR p from zm oM oM];refine ag (rM 4 ?_);refine zE (zM ?_);have hrg:rgtR p=((((trim p).length-1:Nat):Int)-turnR p).tdiv 2:=rfl;exact ⟨rfl,_,zZ rfl rfl,E0,rfl,oM,oM⟩
 . obtain ⟨e,f⟩:=I j;have ht:turnR p=dif (chR (imR p) (reR p)):=ct oM;have hd:=zTk (chR (imR p) (reR p));have hcl:=zMn (imR p) (reR p);refine rI (K1 (zAE (b:=2) (((trim p).length-1)%2) rfl rfl dE rfl ?_));refine K1 (zC (v := .bool (false)) rfl rfl (sB (by rw [j];rfl)) ?_);refine rS 4194360 ?_;refine wcf rfl (rI (mv (K1 (j0 E0 yB (zQs D z e f) fun vi w2 E0 t => ?_))));subst t;rw [<- ht];refine ag (rS 72 ?_);refine rJ (mv (K1 (zC (v := .int .i64 ((((trim p).length-1:Nat):Int)-turnR p)) rfl rfl (sI (zm oM oM)) ?_)));have htb:=zNe ((((trim p).length-1:Nat):Int)-turnR p);refine K1 (zCI rfl rfl dE ?_);rw [show IntKind.i64.wrap (((((trim p).length-1:Nat):Int)-turnR p).tdiv 2)=rgtR p from zm oM oM];refine ag (rM 4 ?_);refine zE (zM ?_);have hrg:rgtR p=((((trim p).length-1:Nat):Int)-turnR p).tdiv 2:=rfl;exact ⟨rfl,_,zZ rfl rfl,E0,rfl,oM,oM⟩
def restR (p:Poly):Poly:=gcR p (derR p)
def allR (p:Poly):Poly:=trim (dvR p (restR p)).1
def moreR (r:Poly):Poly:=if 1<(trim r).length then trim (dvR r (gcR r (derR r))).1 else [1]
def oneR (p:Poly):Poly:=trim (dvR (allR p) (moreR (restR p))).1
def prtF:Nat->Poly->List Poly
 | 0,_=>[]
 | f+1,P=>if (trim P).length<=1 then [] else monR (oneR P) :: prtF f (restR P)
def zHQ:Nat->Poly->Prop
 | 0,_=>True
 | f+1,P=>1<(trim P).length->zIW P/\zHM P (derR P)/\zFg P (restR P)/\(1<(trim (restR P)).length->zIW (restR P)/\zHM (restR P) (derR (restR P))/\zFg (restR P) (gcR (restR P) (derR (restR P)))) /\
  zFg (allR P) (moreR (restR P))/\zFh (oneR P)/\(trim (restR P)).length<(trim P).length/\zHQ f (restR P)
def prtR (p:Poly):List Poly:=prtF (p.length+1) p
theorem more_pos {r:Poly} (h:1<(trim r).length) (e:IsPoly w v (trim (dvR r (gcR r (derR r))).1)):IsPoly w v (moreR r):=by unfold moreR;rw [cD h];exact e
theorem more_neg {r:Poly} (h:¬ 1<(trim r).length) (e:IsPoly w v [1]):IsPoly w v (moreR r):=by unfold moreR;rw [ct h];exact e
theorem parts_ok {p:List Rat} (hp:IsPoly w v p) (N:zHQ (p.length+1) p):Ret prog 261 #[v] w (fun r w'=>ChR w' r (prtR p)):=by
 have ax:p.length<=4096:=by obtain ⟨_,_,_,_,_,h4⟩:=hp;exact h4
 have ay:=zAV p;refine J0 50 func261 rfl (rj (ag (rM 1 ?_)));refine rj (ag (rM 9 ?_));refine zA (zF ?_);refine zX (X:=Poly×List Poly×Nat) (fun X ρ w'=>match X with | (P,C,f)=>∃ V vo,Keep ρ [(0,V),(3,vo)]/\Ext w w'/\IsPoly w' V P/\ChB w.heap.size w' vo C/\C.length+(trim P).length<=5000/\C++prtF f P=prtR p/\(trim P).length<f/\zHQ f P) (fun X=>(trim X.1).length) (p,[],p.length+1) ⟨_,_,(kp rfl),E0,hp,ChB.nil,by simp;omega,rfl,oM,N⟩ ?_;rintro ⟨P,C,f⟩ ρ1 w1 ⟨V,vo,hk,E0,t,j,az,O,hf,F⟩;refine wpe_k _ hk ?_;refine zA (rJ (K1 (j2 E0 t.ext j.ext yB (zCn t) fun vi w2 E0 t j N => ?_)));subst N;refine K1 (zC (v := .bool (decide (1<(trim P).length))) rfl rfl (sB (fR.2 oM)) (rM 4105 ?_));refine K0 rfl ?_ ?_<;>intro hc
 . have Z:1<(trim P).length:=dh hc;obtain ⟨U,rfl⟩:∃ U,f=U+1:=⟨f-1,oM⟩;rw [prtF,ct oM] at O;obtain ⟨d1,⟨e1,e2,e3⟩,⟨d2,d3⟩,hmr,⟨d4,d5⟩,d6,hdec,F⟩:=F Z;refine sk (zF (rJ (mv (K1 (j2 E0 t.ext j.ext yB (zDr t d1) fun vd w2 E0 t j hD=>K1 (j2 E0 t.ext j.ext yB (zFv t hD e1 e2 e3) fun vr w2 E0 t j e => ?_))))));replace e:IsPoly w2 vr (restR P):=e;refine ag (rM 25 ?_);refine zA ?_
   skip
   refine rI (mv (K1 (j3 E0 t.ext j.ext e.ext yB (zCc t e d2 d3) fun vd w2 E0 t j e H => ?_)));obtain ⟨J,Y,rfl,h,-⟩:=H;replace h:IsPoly w2 J (allR P):=h;refine mv (xt rfl (xt rfl (ag (ag (rS 56 ?_)))));refine zA ?_
   skip
   refine K6 (K1 (j4 E0 t.ext j.ext e.ext h.ext yB (zDC (n:=1) dE) fun aA w2 E0 t j e h N1=>K1 (zEC N1 fun v24 w7 hE N2 => ?_)));have I:IsPoly w7 v24 [1]:=N2.poly;obtain ⟨E0,t,j,e,h⟩:=V4 hE E0 t.ext j.ext e.ext h.ext;refine ag (rS 184 ?_);refine zA (zA ?_)
   skip
   refine rI (K1 (j5 E0 t.ext j.ext e.ext h.ext I.ext yB (zCn e) fun vi w2 E0 t j e h I N => ?_));subst N;refine K1 (zC (v := .bool (decide (1<(trim (restR P)).length))) rfl rfl (sB (fR.2 oM)) (rS 134217912 ?_));refine K0 rfl ?_ ?_<;>intro hc
   . have G:1<(trim (restR P)).length:=dh hc;obtain ⟨g1,⟨g2,g3,g4⟩,g5,g6⟩:=hmr G;refine rI (mv (mv (K1 (j4 E0 t.ext j.ext e.ext h.ext yB (zDr e g1) fun vd w2 E0 t j e h hD=>K1 (j4 E0 t.ext j.ext e.ext h.ext yB (zFv e hD g2 g3 g4) fun vg w2 E0 t j e h hG=>K1 (j4 E0 t.ext j.ext e.ext h.ext yB (zCc e hG g5 g6) fun vq w2 E0 t j e h H => ?_))))));obtain ⟨J,Y,rfl,aa,-⟩:=H;have hMore:=more_pos G aa;refine mv (xt rfl (xt rfl (ag (rS 184 ?_))));refine rJ (mv (K1 (j3 E0 t.ext j.ext e.ext yB (zCc h hMore d4 d5) fun vq w2 E0 t j e H => ?_)));obtain ⟨J,Y,rfl,D,-⟩:=H;replace D:IsPoly w2 J (oneR P):=D;refine mv (xt rfl (xt rfl (ag (ag (rM 280 ?_)))));refine rJ (mv (K1 (j3 E0 t.ext j.ext e.ext yB (zDQ D d6) fun vm w2 E0 t j e z => ?_)));obtain ⟨mp,mc,rfl,ad⟩:=id z;refine K1 (zIP rfl fun vo2 w7 hE hO => ?_);obtain ⟨E0,e,j,z⟩:=V3 hE E0 e.ext j.ext z.ext;refine K1 (zIs rfl j hO z oM E0.size fun vo3 w8 hN hC2 => ?_);have kp:KeepB 26 _ w8:=fun b T cs hT hb=>hN.blk b T cs (.inr (.inr hT)) hb;replace E0:=hN.ext _ (cX _) E0;replace e:=kp.poly dE dE e;clear j kp;have j:=hC2;refine ag (rM 24 ?_);refine rI (ag (rl (zN (zL ?_))))
     exact ⟨rfl,(restR P,C++[monR (oneR P)],U),⟨_,_,(kp rfl),E0,e,j,by rw [dN,gf];omega,by rw [dU];exact O,oM,F⟩,hdec⟩
   . have G:¬ 1<(trim (restR P)).length:=de hc;have hMore:=more_neg G I;refine sk (rJ (mv (K1 (j3 E0 t.ext j.ext e.ext yB (zCc h hMore d4 d5) fun vq w2 E0 t j e H => ?_))));obtain ⟨J,Y,rfl,D,-⟩:=H;replace D:IsPoly w2 J (oneR P):=D;refine mv (xt rfl (xt rfl (ag (ag (rM 280 ?_)))));refine rJ (mv (K1 (j3 E0 t.ext j.ext e.ext yB (zDQ D d6) fun vm w2 E0 t j e z => ?_)));obtain ⟨mp,mc,rfl,ad⟩:=id z;refine K1 (zIP rfl fun vo2 w7 hE hO => ?_);obtain ⟨E0,e,j,z⟩:=V3 hE E0 e.ext j.ext z.ext;refine K1 (zIs rfl j hO z oM E0.size fun vo3 w8 hN hC2 => ?_);have kp:KeepB 26 _ w8:=fun b T cs hT hb=>hN.blk b T cs (.inr (.inr hT)) hb;replace E0:=hN.ext _ (cX _) E0;replace e:=kp.poly dE dE e;clear j kp;have j:=hC2;refine ag (rM 24 ?_);refine rI (ag (rl (zN (zL ?_))));exact ⟨rfl,(restR P,C++[monR (oneR P)],U),⟨_,_,(kp rfl),E0,e,j,by rw [dN,gf];omega,by rw [dU];exact O,oM,F⟩,hdec⟩
 . have aB:¬ 1<(trim P).length:=de hc;have hR:prtR p=C:=by
    rw [<- O];cases f with
    | zero=>omega
    | succ f=>rw [prtF,cD oM,fu]
   refine zT (zt (zf (zI (zK (rJ (ag (rM 4 ?_)))))));refine zE (zM ?_);exact ⟨rfl,_,zZ rfl rfl,E0,by rw [hR];exact j.rd⟩
variable {m:Nat}
theorem prd_one {p:Option Addr} (h:PRd w p l) (e:k<l.length):PRd w (p.map fun a=>a.add (3*k)) [l.getD k 0]:=by
 obtain ⟨b,o,cs,f,j,D,t⟩:=h.at e;subst f;refine .inr ⟨b,o+3*k,cs,by rw [Option.map_some,zAm],j,by rw [gf];omega,fun i z => ?_⟩;have:i=0:=by simpa using z
 subst this;exact t
section laws
variable {d:Option Tmp}
theorem runs_sub1 {x e f:Operand} {p:Option Addr} (h:σ x = .slice p len cap) (j:σ e = .int .i64 (k:Int)) (t:σ f = .int .i64 ((k+1:Nat):Int)) (D:k<len) (F:len<=cap) (z:K (.slice (p.map fun a=>a.add (3*k)) 1 (cap-k)) w):Runs prog r ⟨d,.slice 26 x (some e) (some f) none,ty,pos,af,g⟩ σ w K:=by
 refine zHI slice26 h j t oM oM oM ?_;rw [ct oM,show ((k+1:Nat):Int).toNat-((k:Nat):Int).toNat=1 by omega,show ((k:Nat):Int).toNat=k by omega,dm];exact z
end laws
def lowR:Poly->Nat
 | []=>0
 | c :: p=>if c=0 then lowR p+1 else 0
theorem zJn:∀ {p:Poly} {j:Nat},j<lowR p->co p j=0
 | [],j,h=>absurd h (gF j)
 | c :: p,j,h=>by
  unfold lowR at h;split at h
  . cases j with
    | zero=>assumption
    | succ j=>exact zJn (p:=p) oM
  . exact absurd h (gF j)
theorem zOX:∀ {p:Poly},lowR p<p.length->co p (lowR p)≠0
 | [],h=>absurd h (Nat.lt_irrefl 0)
 | c :: p,h=>by
  unfold lowR at h ⊢;split at h
  . rename_i e;rw [cD e];exact zOX (p:=p) (by rw [et] at h;omega)
  . rename_i e;rw [ct e];exact e
def sqR (p:Poly):Poly:=(List.range ((p.length-lowR p+1)/2)).map fun t=>co p (lowR p+2*t)
def AxS:List Poly->Nat->Int->Int->Prop
 | [],_,n,a=>a=n
 | q :: l,m,n,a=>(1<(trim q).length/\∃ k:Nat,bndR q<=((2^k:Nat):Rat)/\AxS l (m+1) (n+2*((m+1:Nat):Int)*cntR (stuR q) (-((2^k:Nat):Rat)) 0) a)\/(¬ 1<(trim q).length/\AxS l (m+1) n a)
def zQH (M:Nat) (q:Poly):Prop:=1<(trim q).length->zMc q/\zMW q/\bndR q<=((2^M:Nat):Rat)/\sz (bndR q)<400000000000/\(stuR q).length<=5000 /\
 (∀ k,k<=M->∀ i,i<(stuR q).length->zJD ((stuR q).getD i []) (-((2^k:Nat):Rat)))/\∀ i,i<(stuR q).length->zJD ((stuR q).getD i []) 0
theorem drop_consL {l:List Poly} (h:i<l.length):l.drop i=l.getD i [] :: l.drop (i+1):=by
 rw [dZ h];simp [h]
theorem zSF (h:C.length<=5000) (e f:Rat) : -5000<=cntR C e f/\cntR C e f<=5000:=by
 have j:=zEO (C.map fun p=>sgn p e) 0 0;have h2:=zEO (C.map fun p=>sgn p f) 0 0;rw [dJ] at j h2;unfold cntR;omega
theorem zPc {c:Int} (e:m<5000) (f : -5000<=c/\c<=5000) : -50000000<=2*((m+1:Nat):Int)*c/\2*((m+1:Nat):Int)*c<=50000000:=by
 have h:(2*((m+1:Nat):Int)*c).natAbs<=10000*5000:=by
  rw [ey];exact fs oM oM
 omega
theorem zFR (c x:Rat):ev [c] x=c:=by show c+x*0=c;grind
theorem onAxis_ok {p:List Rat} (hp:IsPoly w v p) (aj:lowR p<p.length) (ax:∀ k,Room (0:Rat) 0/\Room ((0:Rat)*0) (p.getD k 0)) (ak:zHQ ((sqR p).length+1) (sqR p)) (al:(prtR (sqR p)).length<5000) (hM:M<400000000000) (ay:∀ i,i<(prtR (sqR p)).length->zQH M ((prtR (sqR p)).getD i [])):Ret prog 211 #[v] w (fun r _=>∃ a,r = .int .i64 a/\AxS (prtR (sqR p)) 0 ((lowR p:Nat):Int) a /\ -300000000000<=a/\a<=300000000000):=by
 obtain ⟨pp,pc,rfl,az,hP,ai⟩:=hp;refine J0 67 func211 rfl (rj (ag (rM 1 ?_)));refine rj (ag (rM 9 ?_));refine zA (zF (zX (X:=Nat) (fun k Z w'=>Keep Z [(0,.slice pp p.length pc),(3,.int .i64 ((k:Nat):Int))]/\k<=lowR p/\Ext w w') (fun k=>p.length-k) 0 ⟨(kp rfl),di _,E0⟩ ?_));rintro k ρ1 w1 ⟨f,aM,E0⟩;refine wpe_k _ f ?_;refine zA (rJ (mv (mv (K1 (zg (b:=1) (k+1) rfl rfl rfl oM (K1 (runs_sub1 rfl rfl rfl oM az (K1 (zV (cs := #[.int .i64 0,.slice none 0 0,.slice none 0 0]) kR ?_)))))))));refine K1 (j0 E0 yB (isRoot_ok (p:=[p.getD k 0]) (x:=0) ⟨_,_,rfl,show 1<=pc-k by omega,prd_one (hP.ext E0) oM,show 1<=4096 by decide⟩ IsR.zero (by intro i hi;obtain rfl:i=0:=(by simpa using hi);exact ax k)) fun vi w2 E0 I => ?_);subst I;refine rM 32777 ?_;refine K0 rfl ?_ ?_<;>intro hc
 . have hz:co p k=0:=by have:=dh hc;rw [zFR] at this;exact this
   have D:k<lowR p:=by
    rcases dR k (lowR p) with e | e
    . exact e
    . obtain rfl:k=lowR p:=by omega
      exact absurd hz (zOX aj)
   exact sk (zF (rI (K8 rfl (ag (rl (zN (zL (⟨rfl,k+1,⟨kw,oM,E0⟩,oM⟩))))))))
 . have hz:co p k≠0:=by have:=de hc;rw [zFR] at this;exact this
   obtain rfl:k=lowR p:=by
    rcases dR k (lowR p) with e | e
    . exact absurd (zJn e) hz
    . omega
   refine zT (zt (zf (zI (zK (rj (ag (rM 25 ?_)))))));refine zA (rJ (ag (rM 57 ?_)));refine zF (zX (X:=Nat) (fun j Z w'=>∃ vo,Keep Z [(0,.slice pp p.length pc),(3,.int .i64 ((lowR p:Nat):Int)),(4,vo),(5,.int .i64 ((lowR p+2*j:Nat):Int))]/\lowR p+2*j<=p.length+1/\Ext w w'/\AccP w.heap.size w' vo ((List.range j).map fun t=>co p (lowR p+2*t))) (fun j=>p.length+1-(lowR p+2*j)) 0 ⟨_,(kp rfl),oM,E0,AccP.nil⟩ ?_);rintro j ρ2 w2 ⟨vo,f,aN,E0,N⟩;refine wpe_k _ f ?_;refine zA (rJ (mv (K1 (zG slice26 rfl (K8 rfl (rM 4194361 ?_))))));refine K0 rfl ?_ ?_<;>intro hc
   . have D:lowR p+2*j<p.length:=t_lt hc;refine sk (zA (zF (rI (mv (mv (K1 (runs_pindex (l:=p) (ix:=lowR p+2*j) (hP.ext E0) rfl rfl D (K1 (runs_pload (l:=p) (i:=lowR p+2*j) (hP.ext E0) D rfl fun vn N1=>K1 (zEC N1 fun v4 w4 z N4 => ?_))))))))));obtain ⟨E0,N⟩:=V1 z E0 N.ext;refine K1 (zEu rfl N N4 (by simp;omega) E0.size fun v' w9 hN N => ?_);replace E0:=hN.ext _ (cX _) E0;refine ag (rl (zN (zK (K5 [0,3,4,5] ?_))));refine rI (K8 rfl (ag (rl (zL ?_))));exact ⟨rfl,j+1,⟨_,⟨rfl,rfl,rfl,rfl,rfl,rfl,rfl,cW (Value.int .i64) ((zm oM oM).trans oM),trivial⟩,oM,E0,by rw [iA,eK];exact N⟩,oM⟩
   . have aA:=f_lt hc;obtain rfl:j=(p.length-lowR p+1)/2:=by omega
     replace N:AccP w.heap.size w2 vo (sqR p):=N;refine zT (zt (zf (zI (zK (rJ (ag (rM 121 ?_)))))));refine rj (mv ?_);refine K1 (zJ yB (CallK.of_ret (parts_ok (N.poly (by simp [sqR];omega)) ak) fun vl w9 z hL => ?_) rfl);replace E0:=E0.trans z;have hroom:=ay;have hCl:=al;obtain ⟨C,hC⟩:∃ C,C=prtR (sqR p):=⟨_,rfl⟩;rw [<- hC] at hL hroom hCl;obtain ⟨lp,lc,rfl,hR⟩:=hL;have G:=selfX E0;refine ag (rM 233 ?_);refine zA (rj (ag (rM 489 ?_)));refine zF (zX (X:=Nat) (fun m Z w'=>∃ n,Keep Z [(6,.int .i64 n),(7,.slice lp C.length lc),(8,.int .i64 ((m:Nat):Int))]/\m<=C.length/\Ext w w'/\Aft w9 w'/\(∀ a,AxS (C.drop m) m n a->AxS C 0 ((lowR p:Nat):Int) a) /\ -(5000+50000000*(m:Int))<=n/\n<=5000+50000000*(m:Int)) (fun m=>C.length-m) 0 ⟨_,(kp rfl),di _,E0,G,fun a h=>h,oM,oM⟩ ?_);rintro m ρ3 w3 ⟨n,f,aO,E0,G,F,aP,aQ⟩;refine wpe_k _ f ?_;refine zA (rJ (mv (K1 (zG zDb rfl (K8 rfl (rm [6,7,8,38] ?_))))));refine K0 rfl ?_ ?_<;>intro hc
     . have D:m<C.length:=t_lt hc;obtain ⟨pb,aR,pv,rfl,U,hv,ai⟩:=hR m D;have hq:=hroom m D;rw [drop_consL D] at F;generalize C.getD m []=q at *;obtain ⟨qp,qc,rfl,V,hQ,Y⟩:=ai;refine sk (zA (zF (rJ (mv (K1 (zBh zDb rfl rfl D ?_))))));refine K1 (zD zGT rfl (U.ext G) (by rw [eG];exact hv) ?_);refine K1 (j1 E0 G.ext yB (zCn (l:=q) ⟨qp,qc,rfl,V,hQ.ext G,Y⟩) fun vi w2 E0 G I => ?_);subst I;refine K1 (zC (v := .bool (decide (1<(trim q).length))) rfl rfl (sB (fR.2 oM)) (rm [6,7,8,46] ?_));refine K0 rfl ?_ ?_<;>intro hc
       . have J:1<(trim q).length:=dh hc;obtain ⟨h1,h2,h3,h4,h5,h6,h7⟩:=hq J;refine zAR none 19 [[12],[16],[1],[1],[14],[16],[3,1],[1],[1],[14],[16],[3,1],[1],[1],[1],[],[15,3,1],[27,1],[35,1]] mixed kR fun K hK=>dM aL (dM aL (du (fun z f=>zg (b:=1) (m+1) f.1 rfl rfl oM eR) (du (u := .int .i64 (2*((m+1:Nat):Int))) (fun z f=>zC rfl f.1 (sI (zm oM oM)) eR) (dM aL (dM aL (du (fun z f=>zBh zDb f.1 f.2.1 D eR) ?_))))));refine du (u := .slice qp q.length qc) (fun z f=>zD zGT f.1 (U.ext (G.ext z)) (by rw [eG];exact hv) eR) ?_;refine dl (fun z f=>zNc (IsPoly.of_eq f.1 ⟨qp,qc,rfl,V,hQ.ext (G.ext z),Y⟩) h1) (dM aL (dM aL (du (fun z f=>zBh zDb f.1 f.2.1 D eR) ?_)));refine du (u := .slice qp q.length qc) (fun z f=>zD zGT f.1 (U.ext (G.ext z)) (by rw [eG];exact hv) eR) ?_;refine dcp (fun v w'=>∃ k:Nat,k<=M/\IsR w' v ((2^k:Nat):Rat)/\bndR q<=((2^k:Nat):Rat)) (fun _ _ _ _ hx h=>(let ⟨k,h1,h2,h3⟩:=h;⟨k,h1,h2.ext hx.toExt,h3⟩)) (fun σ wx z f=>zJ yB (CallK.of_ret (start_ok (IsPoly.of_eq f.1 ⟨qp,qc,rfl,V,hQ.ext (G.ext z),Y⟩) h2 hM h3 h4) fun v w2 hX I=>⟨hX,I⟩) rfl) ?_
         refine dcp (fun v w'=>∃ k:Nat,k<=M/\IsR w' v (-((2^k:Nat):Rat))/\bndR q<=((2^k:Nat):Rat)) (fun _ _ _ _ hx h=>(let ⟨k,h1,h2,h3⟩:=h;⟨k,h1,h2.ext hx.toExt,h3⟩)) (fun σ wx z f=>(by obtain ⟨k,e1,O,T⟩:=f.1;exact zJ yB (CallK.of_ret (zLW O) fun v w2 hX I=>⟨hX,k,e1,I,T⟩) rfl)) ?_;refine dC (fun v w'=>IsR w' v (0)) (fun z f=>zV (cs := #[.int .i64 0,.slice none 0 0,.slice none 0 0]) kR ⟨Ext.refl _,IsR.zero⟩) ?_;refine dC (fun v _=>∃ k:Nat,v = .int .i64 (cntR (stuR q) (-((2^k:Nat):Rat)) 0)/\bndR q<=((2^k:Nat):Rat)) (fun z f=>(by obtain ⟨k,e1,O,T⟩:=f.2.1;exact zJ yB (CallK.of_ret (counted_ok f.1 O f.2.2.1 (h6 k e1) h7 oM) fun v w2 hX I=>⟨hX,k,I,T⟩) rfl)) ?_;refine dC (fun v _=>∃ k:Nat,v = .int .i64 (2*((m+1:Nat):Int)*cntR (stuR q) (-((2^k:Nat):Rat)) 0)/\bndR q<=((2^k:Nat):Rat)) (fun z f=>(by obtain ⟨k,O,T⟩:=f.2.1;have hb:=zPc (m:=m) oM (zSF h5 (-((2^k:Nat):Rat)) 0);exact zC f.1 O (sI (zm oM oM)) ⟨Ext.refl _,k,rfl,T⟩)) ?_
         refine dC (fun v _=>∃ k:Nat,v = .int .i64 (n+2*((m+1:Nat):Int)*cntR (stuR q) (-((2^k:Nat):Rat)) 0)/\bndR q<=((2^k:Nat):Rat)) (fun z f=>(by obtain ⟨k,O,T⟩:=f.2.1;have hb:=zPc (m:=m) oM (zSF h5 (-((2^k:Nat):Rat)) 0);exact zC f.1 O (sI (zm oM oM)) ⟨Ext.refl _,k,rfl,T⟩)) ?_;refine zAJ (hK _ fun wq z => ?_);rintro _ rfl _ rfl _ rfl v50 N50 _ rfl _ rfl v53 N53 v54 N54 v55 N55 _ rfl _ rfl v58 N58 v59 N59 v60 N60 v61 N61 v62 N62 v63 N63 v64 N64 v65 N65;refine zY ?_;obtain ⟨E0,G⟩:=V1 z E0 G.ext;obtain ⟨k,rfl,aB⟩:=N65;have hb:=zPc (m:=m) oM (zSF h5 (-((2^k:Nat):Rat)) 0);have H:∀ a,AxS (C.drop (m+1)) (m+1) (n+2*((m+1:Nat):Int)*cntR (stuR q) (-((2^k:Nat):Rat)) 0) a->AxS C 0 ((lowR p:Nat):Int) a:=fun a ha=>F a (.inl ⟨J,k,aB,ha⟩);refine ag (zAh (zN (zK (K5 [6,7,8] ?_))));exact rI (K8 rfl (ag (rl (zL (⟨rfl,m+1,⟨_,kw,oM,E0,G,H,oM,oM⟩,oM⟩)))))
       . have J:¬ 1<(trim q).length:=de hc;have H:∀ a,AxS (C.drop (m+1)) (m+1) n a->AxS C 0 ((lowR p:Nat):Int) a:=fun a ha=>F a (.inr ⟨J,ha⟩);exact zw (zN (zK (rI (K8 rfl (ag (rl (zL (⟨rfl,m+1,⟨_,kw,oM,E0,G,H,oM,oM⟩,oM⟩))))))))
     . have aA:=f_lt hc;obtain rfl:m=C.length:=by omega
       rw [eO] at F;refine zT (zt (zf (zI (zK (rJ (ag (rM 452 ?_)))))));refine zE (zM ?_);exact ⟨rfl,_,zZ rfl rfl,E0,n,rfl,by rw [<- hC];exact F n rfl,oM,oM⟩
def ask (p:Poly):Int:=if 41<(trim p).length then 3 else if (trim p).length=0 then 8 else 0
def mirG (p:Poly):Poly:=gcR p (mirR p)
def mirH (p:Poly):Poly:=trim (dvR p (mirG p)).1
def zQI (M:Nat) (g:Poly):Prop:=lowR g<g.length/\(∀ k,Room (0:Rat) 0/\Room ((0:Rat)*0) (g.getD k 0))/\zHQ ((sqR g).length+1) (sqR g)/\(prtR (sqR g)).length<5000/\M<400000000000/\∀ i,i<(prtR (sqR g)).length->zQH M ((prtR (sqR g)).getD i [])
def zGE (M:Nat) (p:Poly):Prop:=zHM p (mirR p)/\zFg p (mirG p)/\zQI M (mirG p)/\zPU (mirH p)
def zHN (p:Poly) (a b e:Int):Prop:=(ask p≠0/\a=0/\b=0/\e=ask p)\/(ask p=0/\e=0/\AxS (prtR (sqR (mirG p))) 0 ((lowR (mirG p):Nat):Int) b/\a=rgtR (mirH p)+(((trim (mirG p)).length:Int)-1-b).tdiv 2 /\ -1000000000000<=a/\a<=1000000000000 /\ -300000000000<=b/\b<=300000000000)
theorem zMa {p:List Rat} (D:IsPoly w v p) (t:ask p=0->zGE M p):Ret prog 118 #[v] w (fun r _=>∃ a b e,r = .tuple #[.int .i64 a,.int .i64 b,.int .i64 e]/\zHN p a b e):=by
 refine J0 36 func118 rfl (rj (ag (ag (ag (rM 1 ?_)))));refine rJ (K1 (j0 E0 yB (asked2_ok D) fun J w2 E0 t => ?_));subst t;rw [show (if 41<(trim p).length then (3:Int) else if (trim p).length=0 then 8 else 0)=ask p from rfl];refine ag (rM 33 ?_);refine zA (rj (mv ?_));refine K1 (zC (v := .bool (decide (ask p≠0))) rfl rfl (sB (by by_cases h:ask p=0<;>simp [h,bne])) ?_);refine rM 8225 ?_;refine K0 rfl ?_ ?_<;>intro hc
 . have F:ask p≠0:=dh hc;refine rJ (ag (ag (ag (rM 28 ?_))));exact zE (zU (zM (⟨rfl,_,zBu rfl rfl rfl rfl,E0,_,_,_,rfl,.inl ⟨F,rfl,rfl,rfl⟩⟩)))
 . have F:ask p=0:=gm (de hc);obtain ⟨⟨N,O,T⟩,⟨U,V⟩,⟨Y,Z,x3,x4,x5,x6⟩,hrg⟩:=t F;refine sk (rJ (mv (K1 (j0 E0 yB (mirrored_ok (D.ext E0)) fun vm w2 E0 hM=>K1 (j0 E0 yB (zFv (D.ext E0) hM N O T) fun vg w2 E0 f => ?_)))));replace f:IsPoly w2 vg (mirG p):=f;refine ag (rM 65 ?_);refine zA ?_
   skip
   refine rI (mv (K1 (j1 E0 f.ext yB (zCc (D.ext E0) f U V) fun vd w2 E0 f hd => ?_)));obtain ⟨I,vb,rfl,z,-⟩:=hd;replace z:IsPoly w2 I (mirH p):=z;refine mv (xt rfl (xt rfl (ag (ag (rS 192 ?_)))));refine zA ?_;have hgl:(trim (mirG p)).length<=4096:=by obtain ⟨_,_,_,_,_,h4⟩:=f;have:=zAV (mirG p);omega
   refine rI (K1 (j2 E0 f.ext z.ext yB (onAxis_ok f Y Z x3 x4 x5 x6) fun I w2 E0 f z j => ?_));obtain ⟨a,rfl,G,j,H⟩:=j;refine ag (rS 704 ?_);refine rJ (K1 (j1 E0 f.ext yB (rightOf_ok z hrg) fun vr w2 E0 f hrr => ?_));obtain ⟨rfl,aj,ak⟩:=hrr;refine mv (K1 (j0 E0 yB (zCn f) fun J w2 E0 t => ?_));subst t;refine mv (K1 (zC (v := .int .i64 (((trim (mirG p)).length:Int)-1-a)) rfl rfl (sI (zm oM oM)) ?_));have htb:=zNe (((trim (mirG p)).length:Int)-1-a);refine K1 (zCI rfl rfl dE ?_);rw [zm (x:=(((trim (mirG p)).length:Int)-1-a).tdiv 2) oM oM];refine K1 (zC (v := .int .i64 (rgtR (mirH p)+(((trim (mirG p)).length:Int)-1-a).tdiv 2)) rfl rfl (sI (zm oM oM)) (mv (ag (ag (ag (rM 28 ?_))))));exact zE (zM (⟨rfl,_,zBu rfl rfl rfl rfl,E0,_,_,_,rfl,.inr ⟨F,rfl,G,rfl,oM,oM,j,H⟩⟩))
def evR (P:Poly) (m k:Nat):Poly:=trim ((List.range k).map fun j=>if (P.length-1-j)%2=m then co P j else 0)
theorem zKD (P:Poly) (m k j:Nat):co (evR P m k) j=if j<k then (if (P.length-1-j)%2=m then co P j else 0) else 0:=by
 unfold evR;rw [zAU,zDM]
def mono (P:Poly) (k:Nat):Poly:=List.replicate k 0++[co P k]
theorem zSH (P:Poly) (k j:Nat):co (mono P k) j=if j=k then co P k else 0:=by
 unfold mono co;rcases iC j k with h | h | h
 . rw [ct oM,cC,eS (by simpa using h),gN,cD h];rfl
 . subst h;rw [cD rfl,cC,fJ sM,fF,fM];rfl
 . rw [ct oM,cC,ez (by simp;omega)];rfl
theorem zMo (p q:Poly) (k:Nat):co (trim (addR p q)) k=co p k+co q k:=by
 rw [zAU];unfold addR;rw [zDM];split
 . rfl
 . rename_i e;rw [co_ge (l:=p) oM,co_ge (l:=q) oM];grind
theorem zSa {P:Poly} (h:(P.length-1-k)%2=m):trim (addR (evR P m k) (mono P k))=evR P m (k+1):=by
 refine zBW (ze _) (ze _) fun j => ?_;rw [zMo,zKD,zKD,zSH];rcases iC j k with e | e | e
 . rw [cD e,ct (oM:¬ j=k),cD (oM:j<k+1)];grind
 . subst e;rw [ct (Nat.lt_irrefl j),cD rfl,cD (gv j),cD h];grind
 . rw [ct (oM:¬ j<k),ct (oM:¬ j=k),ct (oM:¬ j<k+1)];grind
theorem zQj {P:Poly} (h:(P.length-1-k)%2≠m):evR P m k=evR P m (k+1):=by
 refine zBW (ze _) (ze _) fun j => ?_;rw [zKD,zKD];rcases iC j k with e | e | e
 . rw [cD e,cD (oM:j<k+1)]
 . subst e;rw [ct (Nat.lt_irrefl j),cD (gv j),ct h]
 . rw [ct (oM:¬ j<k),ct (oM:¬ j<k+1)]
def frR:Nat->Poly->Poly->Option Poly
 | 0,_,_=>some []
 | n+1,a,b=>if b.length+1≠a.length then none else (frR n b (psubR a (trim (mulR [0,top a/top b] b)))).map (top a/top b :: ·)
def zLT:Nat->Poly->Poly->Prop
 | 0,_,_=>True
 | n+1,a,b=>b.length+1=a.length->Room (top a) (top b)/\zFi [0,top a/top b] b/\(∀ i,Room (a.getD i 0) ((trim (mulR [0,top a/top b] b)).getD i 0))/\zLT n b (psubR a (trim (mulR [0,top a/top b] b)))
theorem acc_zeros {sz:Nat} (h:Blk w b 50 ((List.replicate k (Value.agg #[.int .i64 0,.slice none 0 0,.slice none 0 0]).cells.toList).flatten)) (e:sz<=b):AccP sz w (.slice (some ⟨b,0,none⟩) k k) (List.replicate k 0):=by
 have f:=PBlk.zeros h;obtain ⟨cs,j,z,t⟩:=f;obtain ⟨-,rfl⟩:=h.inj j;exact ⟨_,k,by rw [fF],by rw [fF];exact cX _,.inr ⟨b,_,rfl,e,h,by rw [zIZ _ _ rfl],t⟩⟩
theorem zSm {P:Poly} (f:Trimd P):Trimd (fracA P):=fun n e=>by
 rw [zDG] at e;rw [zHw,cD oM];exact f n e
theorem zOK {P:Poly} (e:Trimd P):evR P 0 P.length=fracA P:=by
 refine zBW (ze _) (zSm e) fun j => ?_;rw [zKD,zHw];split
 . rfl
 . rw [co_ge (oM:P.length<=j)];split<;>rfl
theorem zOL {P:Poly}:evR P 1 P.length=fracB P:=by
 refine zBW (ze _) (ze _) fun j => ?_;rw [zKD,zJk];by_cases h:j<P.length
 . rw [cD h];by_cases e:(P.length-1-j)%2=0
   . rw [ct oM,cD e]
   . rw [cD oM,ct e]
 . rw [ct h,co_ge (oM:P.length<=j)];split<;>rfl
def frO (p:Poly):Option Poly:=frR ((trim p).length-1) (fracA (trim p)) (fracB (trim p))
def zMX (p:Poly):Prop:=(∀ i,sz (co (trim p) i)<400000000000)/\zLT ((trim p).length-1) (fracA (trim p)) (fracB (trim p))
variable {A:List Rat} {sz':Nat} {vo:Value}
theorem zOt {P:Poly} (h:∀ i,sz (co P i)<400000000000) (i:Nat):Room ((evR P m k).getD i 0) ((mono P k).getD i 0):=by
 show Room (co (evR P m k) i) (co (mono P k) i);rw [zKD,zSH];have h1:=h i;have h2:=h k;have h0:sz 0=0:=dE
 unfold Room;split<;>split<;>(try split)<;>omega
theorem zQi (P:Poly) (m k:Nat):(evR P m k).length<=k:=by
 have:=zAV ((List.range k).map fun j=>if (P.length-1-j)%2=m then co P j else 0);rw [dJ,List.length_range] at this;exact this
theorem psubR_le (p q:Poly):(psubR p q).length<=max p.length q.length:=by
 have:=zAV ((List.range (max p.length q.length)).map fun i=>co p i-co q i);rw [dJ,List.length_range] at this;exact this
def SepP (vo:Value) (w:World) (v:Value) (l:List Rat):Prop:=((l=[]/\∃ a,v = .slice a 0 0)\/∃ b c,v = .slice (some ⟨b,0,none⟩) l.length c/\l.length<=c/\PBlk w b l/\∀ e n f,vo = .slice (some ⟨e,0,none⟩) n f->b≠e)/\l.length<=4096
theorem SepP.ext (h:SepP vo w v l) (f:Ext w w'):SepP vo w' v l:=by
 obtain ⟨h | ⟨b,c,j,t,z,D⟩,e⟩:=h
 . exact ⟨.inl h,e⟩
 . exact ⟨.inr ⟨b,c,j,t,z.ext f,D⟩,e⟩
theorem SepP.form (h:SepP vo w v l):∃ p c,v = .slice p l.length c:=by
 obtain ⟨⟨rfl,a,rfl⟩ | ⟨b,c,rfl,e,-,-⟩,-⟩:=h
 . exact ⟨a,0,rfl⟩
 . exact ⟨_,c,rfl⟩
theorem SepP.rd {p:Option Addr} (h:SepP vo w (.slice p n c) l):PRd w p l:=by
 obtain ⟨⟨rfl,-⟩ | ⟨b,j,e,t,f,-⟩,-⟩:=h
 . exact .inl rfl
 . cases e;exact f.rd
theorem SepP.poly (h:SepP vo w v l):IsPoly w v l:=by
 obtain ⟨⟨rfl,a,rfl⟩ | ⟨b,c,rfl,f,j,-⟩,e⟩:=h
 . exact ⟨a,0,rfl,cX _,.inl rfl,e⟩
 . exact ⟨_,c,rfl,f,j.rd,e⟩
theorem zCT.sep {sz:Nat} (h:zCT sz w v l) (t:l.length<=4096) (z:∀ f n j,vo = .slice (some ⟨f,0,none⟩) n j->f<sz):SepP vo w v l:=by
 rcases h with h | ⟨b,c,D,F,H,G⟩
 . exact ⟨.inl h,t⟩
 . exact ⟨.inr ⟨b,c,D,F,G,fun f n j e=>by have:=z f n j e;omega⟩,t⟩
theorem AccP.le {sz:Nat} (h:AccP sz w v A) (G:sz'<=sz):AccP sz' w v A:=by
 obtain ⟨p,f,j,t,e⟩:=h;refine ⟨p,f,j,t,?_⟩;rcases e with e | ⟨z,cs',D,H,F⟩
 . exact .inl e
 . exact .inr ⟨z,cs',D,oM,F⟩
theorem AccP.ge {sz:Nat} (h:AccP sz w v A):∀ b n c,v = .slice (some ⟨b,0,none⟩) n c->sz<=b:=fun b n c e=>by
 obtain ⟨p,F,j,G,z⟩:=h;rcases z with ⟨t,f,D⟩ | ⟨H,cs',t,f,D,I,J⟩
 . rw [j,f] at e;cases e
 . rw [j,t] at e;cases e;exact f
theorem AccP.lt {sz:Nat} (h:AccP sz w v A):∀ b n c,v = .slice (some ⟨b,0,none⟩) n c->b<w.heap.size:=fun b n c e=>by
 obtain ⟨p,F,f,G,D⟩:=h;rcases D with ⟨j,t,z⟩ | ⟨H,cs',j,t,z,I,J⟩
 . rw [f,t] at e;cases e
 . rw [f,j] at e;cases e;exact z.lt
section laws
variable {d:Option Tmp}
theorem runs_accS {x y:Operand} {sz:Nat} {q:Rat} (z:σ x=v) (Z:AccP sz w v A) (hy:OneR sz2 q (σ y) w) (D:A.length<4096) (hs:sz<=w.heap.size)
 (hk:∀ I w',Near5 sz w w'->AccP sz w' I (A++[q])->(∀ u l,SepP v w u l->SepP I w' u l)->(∀ b t,RAt b t w->(∀ F n O,v = .slice (some ⟨F,0,none⟩) n O->b≠F)->RAt b t w')->K I w'):Runs prog r ⟨d,.call { callee := .builtin .append,args := #[x,y],argTypes := #[26,26] },ty,pos,af,g⟩ σ w K:=by
 rcases Z.cases with ⟨b,c,e,G,hb,hB⟩ | ⟨p,c,e,G⟩
 . rw [e] at z;refine Runs.mono (runs_appE_in (sz:=sz2) z G hB hy) fun I w' ⟨f,T,h3⟩ => ?_;have j:=hB.now;refine hk _ _ ⟨fun W hW z=>z.updSS f (fun c G=>by rw [dI.1 G];omega),fun v q h=>h.extS f j,fun F q aw h=>h.extS f (by rw [dI];omega) j,f.size⟩ ?_ ?_ ?_
   . rw [h3];exact T.acc hb (by simpa using G)
   . rintro u l ⟨h | ⟨J,c1,k1,k2,U,k4⟩,D⟩
     . exact ⟨.inl h,D⟩
     . have N:=k4 b _ _ e;obtain ⟨cs,m1,m2,m3⟩:=U;exact ⟨.inr ⟨J,c1,k1,k2,⟨cs,m1.extS f (by rw [dI];exact N),m2,fun i hi=>(m3 i hi).extS f j⟩,fun F n O V=>by rw [h3] at V;cases V;exact N⟩,D⟩
   . intro J t h4 h5;exact h4.extS f (by rw [dI];exact h5 b _ _ e) j
 . rw [e] at z Z;refine Runs.mono (runs_appE_grow (sz:=w.heap.size) z Z G hy D (cX _)) fun I w' ⟨f,T⟩=>hk _ _ ⟨fun W _ z=>z.trans f,fun v q h=>h.ext f,fun F q _ h=>h.ext f,f.size⟩ (T.le hs) ?_ fun J t h4 _=>h4.ext f;rintro u l ⟨h | ⟨J,c1,k1,k2,U,k4⟩,D⟩
   . exact ⟨.inl h,D⟩
   . refine ⟨.inr ⟨J,c1,k1,k2,U.ext f,fun F n O V => ?_⟩,D⟩;have h5:=U.lt;have h6:=T.ge F n O V;omega
end laws
theorem zKX {p:List Rat} (hp:IsPoly w v p) (h1:0<(trim p).length) (aP:(trim p).length<=41) (hr:zMX p):Ret prog 117 #[v] w (fun r w'=>match frO p with | some l=>∃ u,r = .tuple #[u,.bool true]/\IsPoly w' u l | none=>∃ u,r = .tuple #[u,.bool false]):=by
 obtain ⟨ai,aa⟩:=hr;have hT:=ze p;have E0:Ext w w:=Ext.refl w;refine J0 78 func117 rfl (rj (ag (ag (rM 1 ?_))));refine rJ (K1 (j0 E0 yB (zBS hp) fun vt w2 E0 G => ?_));obtain ⟨qp,qc,rfl,aQ,T,aq⟩:=id G;refine ag (rM 1 ?_);refine zA ?_
 skip
 refine rI (K1 (zG slice26 rfl (K1 (zC (v := .int .i64 (((trim p).length-1:Nat):Int)) rfl rfl (sI (zIV h1 aq)) (ag (rS 17 ?_))))));refine rj (ag (ag (rM 113 ?_)));refine zA (rj (ag (rM 241 ?_)));refine zF (zX (X:=Nat) (fun k ρ w'=>∃ va vb,Keep ρ [(0,.slice qp (trim p).length qc),(4,.int .i64 (((trim p).length-1:Nat):Int)),(5,va),(6,vb),(7,.int .i64 ((k:Nat):Int))]/\k<=(trim p).length/\Ext w w'/\IsPoly w' (.slice qp (trim p).length qc) (trim p)/\zCT 0 w' va (evR (trim p) 0 k)/\zCT 0 w' vb (evR (trim p) 1 k)) (fun k=>(trim p).length-k) 0 ⟨_,_,(kp rfl),di _,E0,G,.inl ⟨rfl,_,rfl⟩,.inl ⟨rfl,_,rfl⟩⟩ ?_);rintro k ρ1 w1 ⟨va,vb,t,aR,E0,G,j,f⟩;refine wpe_k _ t ?_;refine zA (rJ (mv (K1 (zC (v := .bool (decide (k<(trim p).length))) rfl rfl (sB (fR.2 oM)) (rM 524529 ?_)))));refine K0 rfl ?_ ?_<;>intro hc
 . have U:k<(trim p).length:=dh hc;obtain ⟨SZ,I⟩:=szX E0;obtain ⟨ar,aS,e',-,T,-⟩:=id G;obtain rfl:qp=ar:=by cases e';rfl
   clear e' ; refine sk (zA (zF (zA ?_)));have F:=selfX E0;have hs0:w.heap.size<=SZ:=by rw [I];exact E0.size
   have au:=G;have hA0:=j;have hB0:=f;refine zAR none 7 [[14],[1,1],[0],[14],[3,1],[1],[1]] mixed kR fun K hK=>dM aL ?_;refine dC (fun v w'=>AccP SZ w' v (List.replicate k 0)) (fun z t=>zAK (len:=(k:Int)) zCr zKc rfl t.1 t.1 oM oM oM fun ob w2 hb hX H hs=>⟨hX,(by rw [show ((k:Nat):Int).toNat=k from by omega] at H ⊢;exact acc_zeros H (by rw [hb,I];exact z.size))⟩) ?_;refine dM aL (dM aL (du (fun z t=>runs_pindex (l:=trim p) (ix:=k) (T.ext z) t.1 t.2.1 U eR) (dC (fun v w'=>IsR w' v (co (trim p) k)) (fun z t=>runs_pload (l:=trim p) (i:=k) (T.ext z) U t.1 fun _=>eX) (dC (fun v w'=>OneR 0 (co (trim p) k) v w') (fun z t=>runs_one (sz:=0) t.1 (di _)) (zAJ (hK _ fun wq z => ?_))))));rintro _ rfl v23 N23 _ rfl _ rfl v26 N26 v27 N27 v28 N28;refine zY ?_;obtain ⟨E0,G,j,f,F⟩:=V4 z E0 G.ext j.ext f.ext F.ext;refine K1 (zEu rfl N23 N28 (by simp;omega) (by rw [I];exact F.size) fun vx w9 hN hX => ?_);have hE2:=hN.ext _ (dS I.symm) F;replace E0:=hN.ext _ hs0 E0;clear G j f;have G:=au.ext hE2;have j:=hA0.ext hE2;have f:=hB0.ext hE2;have hMo:IsPoly w9 vx (mono (trim p) k):=hX.poly (by simp;omega);refine ag (zAh (zK (K5 [0,4,5,6,7,8] ?_)));refine zA ?_;rcases fy ((trim p).length-1-k) with h2 | h2
   . skip
     refine rI (mv (K1 (zAL ((trim p).length-1-k) rfl rfl oM oM (K1 (zAE (b:=2) (((trim p).length-1-k)%2) rfl rfl dE rfl ?_)))));refine K1 (zC (v := .bool (true)) rfl rfl (sB (by rw [h2];rfl)) ?_);refine rS 17179869681 ?_;refine wct rfl (rI (mv ?_));refine K1 (j2 E0 G.ext f.ext yB (zJb (j.poly (by have:=zQi (trim p) 0 k;omega)) hMo (fun i _=>zOt ai i)) fun vn w2 E0 G f hA2 => ?_);replace hA2:=hA2.le (di _);rw [zSa h2] at hA2;rw [zQj (oM:((trim p).length-1-k)%2≠1)] at f;clear j;have j:=hA2;refine ag (rl (zN (zK (K5 [0,4,5,6,7] ?_))));exact rI (K8 rfl (ag (rl (zL (⟨rfl,k+1,⟨_,_,kw,oM,E0,G,j,f⟩,oM⟩)))))
   . skip
     refine rI (mv (K1 (zAL ((trim p).length-1-k) rfl rfl oM oM (K1 (zAE (b:=2) (((trim p).length-1-k)%2) rfl rfl dE rfl ?_)))));refine K1 (zC (v := .bool (false)) rfl rfl (sB (by rw [h2];rfl)) ?_);refine rS 17179869681 ?_;refine wcf rfl (rI (mv ?_));refine K1 (j2 E0 G.ext j.ext yB (zJb (f.poly (by have:=zQi (trim p) 1 k;omega)) hMo (fun i _=>zOt ai i)) fun vn w2 E0 G j H => ?_);replace H:=H.le (di _);rw [zSa h2] at H;rw [zQj (oM:((trim p).length-1-k)%2≠0)] at j;clear f;have f:=H;refine ag (rl (zN (zK (K5 [0,4,5,6,7] ?_))));exact rI (K8 rfl (ag (rl (zL (⟨rfl,k+1,⟨_,_,kw,oM,E0,G,j,f⟩,oM⟩)))))
 . have av:¬ k<(trim p).length:=de hc;obtain rfl:k=(trim p).length:=by omega
   rw [zOK hT] at j;rw [zOL] at f;have aw:(fracB (trim p)).length<=4096:=by rw [<- zOL];have:=zQi (trim p) 1 (trim p).length;omega
   have ax:(fracA (trim p)).length<=4096:=by rw [<- zOK hT];have:=zQi (trim p) 0 (trim p).length;omega
   replace j:SepP (.slice none 0 0) _ _ _:=j.sep ax (fun Y n c' e=>by cases e);replace f:SepP (.slice none 0 0) _ _ _:=f.sep aw (fun Y n c' e=>by cases e);obtain ⟨ap,ac,rfl⟩:=j.form;obtain ⟨Z,bc,rfl⟩:=f.form;refine zT (zt (zf (zI (zK (rj (ag (rM 753 ?_)))))));refine zA (rj (ag (rM 1777 ?_)));refine zF ?_;refine zX (X:=Nat) (fun i ρ w'=>∃ a b l ap ac Z bc vo,Keep ρ [(4,.int .i64 (((trim p).length-1:Nat):Int)),(5,.slice ap a.length ac),(6,.slice Z b.length bc),(9,vo),(10,.int .i64 ((i:Nat):Int))]/\i<=(trim p).length-1/\Ext w w'/\SepP vo w' (.slice ap a.length ac) a/\SepP vo w' (.slice Z b.length bc) b/\AccP w.heap.size w' vo l/\l.length=i/\a.length+i=(trim p).length/\((frR ((trim p).length-1-i) a b).map (l ++ ·))=frO p/\zLT ((trim p).length-1-i) a b) (fun i=>(trim p).length-i) 0 ⟨fracA (trim p),fracB (trim p),[],ap,ac,Z,bc,_,(kp rfl),di _,E0,j,f,AccP.nil,rfl,by rw [zDG];rfl,by rw [Nat.sub_zero];show Option.map (fun x=>x) (frO p)=_;simp,aa⟩ ?_
   rintro i aU w3 ⟨a,b,l,ap,ac,Z,bc,vo,t,aV,E0,j,f,D,ay,aW,J,N⟩;refine wpe_k _ t ?_;refine zA (rJ (mv (K1 (zC (v := .bool (decide (i<(trim p).length-1))) rfl rfl (sB (fR.2 oM)) (rM 8796093023856 ?_)))));refine K0 rfl ?_ ?_<;>intro hc
   . have U:i<(trim p).length-1:=dh hc;obtain ⟨n,hn⟩:∃ n,(trim p).length-1-i=n+1:=⟨(trim p).length-1-i-1,oM⟩;rw [hn] at J N;refine sk (zA (zF (zA (rJ (K1 (zG slice26 rfl (mv (K1 (zG slice26 rfl (K1 (zC (v := .int .i64 ((a.length-1:Nat):Int)) rfl rfl (sI (zIV oM oM)) ?_)))))))))));refine K1 (zC (v := .bool (decide (b.length+1≠a.length))) rfl rfl (sB (by rw [Bool.eq_iff_iff];simp only [fO,eA,ne_eq];omega)) ?_);refine rm [4,5,6,9,10,51] ?_;refine K0 rfl ?_ ?_<;>intro hc
     . have O:b.length+1≠a.length:=dh hc;have V:frO p=none:=by rw [<- J,frR,cD O];rfl
       refine rj (ag (ag (rM 1148 ?_)));refine zE (zU (zd (zU (zAP (zd (zU (zM ?_)))))));exact ⟨rfl,_,zv rfl rfl rfl,E0,by rw [V];exact ⟨_,rfl⟩⟩
     . have O:b.length+1=a.length:=gm (de hc);rw [frR,ct (fun e=>e O)] at J;obtain ⟨r1,r2,r3,N⟩:=N O;have hbl:=f.2;rw [Option.map_map,show ((fun x=>l++x)∘fun x=>top a/top b :: x)=((l++[top a/top b]) ++ ·) from funext fun x=>by simp] at J
       refine sk (zA ?_);obtain ⟨SZ,I⟩:=szX E0;have F:=selfX E0;have hs0:=E0.size;have hA0:=j;have hB0:=f;have hO0:=D;refine zGd [13] [] none 14 [[10],[10],[1],[1],[7,1],[1],[12],[12],[1],[1],[7,1],[1],[13,1],[]] mixed kR (zEr.nil) fun K hK=>dM aL (dM aL (du (fun z t=>zG slice26 t.1 eR) (du (u := .int .i64 ((a.length-1:Nat):Int)) (fun z t=>zC t.1 rfl (sI ((zm oM oM).trans oM)) eR) (du (fun z t=>runs_pindex (l:=a) (ix:=a.length-1) (j.ext z).rd t.1 t.2.1 oM eR) (dC (fun v w'=>IsR w' v (top a)) (fun z t=>runs_pload (l:=a) (i:=a.length-1) (j.ext z).rd oM t.1 fun _=>eX) (dM aL (dM aL (du (fun z t=>zG slice26 t.1 eR) (du (u := .int .i64 ((b.length-1:Nat):Int)) (fun z t=>zC t.1 rfl (sI ((zm oM oM).trans oM)) eR) (du (fun z t=>runs_pindex (l:=b) (ix:=b.length-1) (f.ext z).rd t.1 t.2.1 oM eR) (dC (fun v w'=>IsR w' v (top b)) (fun z t=>runs_pload (l:=b) (i:=b.length-1) (f.ext z).rd oM t.1 fun _=>eX) (dl (fun z t=>over_ok t.1 t.2.1 r1) ?_))))))))))))
       refine dxn (fun v w'=>∃ b,v = .pointer (some ⟨b,0,none⟩)/\Blk w' b 50 [.int .i64 0,.slice none 0 0,.slice none 0 0]/\SZ<=b) (fun _ _ _ _ hx h=>(let ⟨b,e,f,J⟩:=h;⟨b,e,f.ext hx.toExt,J⟩)) (fun σ wx z t=>zR zero50 fun b w2 hb hX f hs=>⟨hX,⟨b,rfl,f,(by rw [hb,I];exact z.size)⟩,Xtra.new dE fun c hc=>(by cases hc;exact ⟨dS hb.symm,by show b<_;omega⟩)⟩) ?_;refine zAJ (hK _ fun wq z => ?_);rintro _ rfl _ rfl _ rfl v55 N55 v56 N56 v57 N57 _ rfl _ rfl _ rfl v61 N61 v62 N62 v63 N63 v64 N64 v11 N11;refine zY ?_;intro hsep;obtain ⟨E0,j,f,D,F⟩:=V4 z E0 j.ext f.ext D.ext F.ext;obtain ⟨xc,rfl,az,aX⟩:=N11;refine K1 (runs_rstoreK rfl N64 (Cell3.of az rfl) fun _ w9 hU hC => ?_);have hE2:=F.upd hU oM;replace E0:=E0.upd hU oM;have hcb:∀ Y n c',vo = .slice (some ⟨Y,0,none⟩) n c'->xc≠Y:=fun Y n c' e=>by have:=hO0.lt Y n c' e;omega
       clear j f D;have j:=hA0.ext hE2;have f:=hB0.ext hE2;have D:=hO0.ext hE2;refine zAh (zK (K5 [4,5,6,9,10,11] ?_));refine rJ (K1 (runs_rAt rfl hC fun v66 N66=>K1 (zEC N66 fun v67 w67 z N67 => ?_)));obtain ⟨E0,j,f,D,hC⟩:=V4 z E0 j.ext f.ext D.ext hC.ext;refine K1 (runs_accS rfl D N67 oM E0.size fun vo2 w68 hN hO2 hS hT => ?_);replace E0:=hN.ext _ (cX _) E0;replace hC:=hT _ _ hC hcb;replace j:=hS _ _ j;replace f:=hS _ _ f;clear D;have D:=hO2;refine ag (rM 3696 ?_);refine rI (mv (K1 (zV (cs := #[.int .i64 0,.slice none 0 0,.slice none 0 0]) kR (K1 (runs_rAt rfl hC fun v72 N72=>K1 (runs_two (p:=0) (q:=top a/top b) (by exact IsR.zero) N72 fun v73 w73 z hY => ?_))))));obtain ⟨E0,j,f,D⟩:=V3 z E0 j.ext f.ext D.ext;refine mv ?_;refine K1 (j3 E0 j.ext f.ext D.ext yB (zDi hY f.poly (by simp;omega) r2) fun vm w2 E0 j f D hMl => ?_);have hml:(trim (mulR [0,top a/top b] b)).length<=4096:=by obtain ⟨_,_,_,_,_,h4⟩:=hMl;exact h4
       have aA:=D.lt;refine K1 (j2 E0 f.ext D.ext yB (zQM j.poly hMl r3) fun vs w2 E0 f D hD => ?_);replace hD:=hD.sep (by have:=psubR_le a (trim (mulR [0,top a/top b] b));have:=j.2;omega) aA;obtain ⟨cp,cc,rfl⟩:=hD.form;refine ag (ag (rl (zN (zK (K5 [4,5,6,9,10] ?_)))));refine rI (K8 rfl (ag (rl (zL ?_))));exact ⟨rfl,i+1,⟨b,psubR a (trim (mulR [0,top a/top b] b)),l++[top a/top b],Z,bc,cp,cc,_,kw,oM,E0,f,hD,D,by rw [dN,ay];rfl,oM,by rw [show (trim p).length-1-(i+1)=n by omega];exact J,by rw [show (trim p).length-1-(i+1)=n by omega];exact N⟩,oM⟩
   . have av:¬ i<(trim p).length-1:=de hc;obtain rfl:i=(trim p).length-1:=by omega
     rw [fM,frR] at J;have V:frO p=some l:=by rw [<- J];simp
     refine zT (zt (zf (zI (zK (rJ (ag (ag (rM 1148 ?_))))))));refine zE (zM ?_);exact ⟨rfl,_,zv rfl rfl rfl,E0,by rw [V];exact ⟨_,rfl,D.poly oM⟩⟩
end Go.Proofs.YtjiendlfobjanaaGreatDoor.R
namespace Go.Proofs.YtjiendlfobjanaaGreatDoor
open Go Go.RowKit Go.Proofs Tryz
set_option maxRecDepth 10000
set_option maxHeartbeats 2000000
attribute [local irreducible] Runs WPE CallK Ret
variable {cs:List Value} {es:List El} {i:Nat} {p:Poly} {v:Value} {w:World}
theorem el_val {e:El} (h:(cs.drop (8*i)).take 8=elc e):cs[8*i+7]? = some (S e.v):=by
 have f:=cW (fun l=>l[7]?) h;simp only [fk,fN] at f;rw [cD dE] at f;rw [f];rfl
theorem RCheck_ok {l:List UInt8} (f:l.length<1000000000):Ret prog 204 #[S l] w (fun r _=>r = .int .i64 (zk l).2):=by
 refine J0 11 func204 rfl (rj (ag (rM 1 ?_)));refine rJ (K1 (j0 E0 yB (R.Parse_ok f) fun j w2 E0 h => ?_));obtain ⟨t,rfl,e⟩:=h;refine mv (xt rfl (xt rfl ?_));refine K1 (zR R.zero50 (Z1 E0 e.ext fun bc w3 E0 e hgc hBc=>K1 (R.runs_rstoreK rfl e (R.Cell3.of hBc rfl) fun _ w4 hU hNA => ?_)));replace E0:=E0.upd hU hgc;refine ag (rm [4] ?_);refine rJ (ag (rM 4 ?_));exact zE (en rfl E0 rfl)
theorem zHD {n:Int} (G:NetIs w v n es) (hl:es.length<100000) (V:∀ i,i<es.length->(es.getD i el0).v.length<1000000000):Ret prog 114 #[v] w (fun r w'=>∃ u,r = .tuple #[u,.int .i64 (doneS n es).2.2]/\NetIs w' u (doneS n es).1 (doneS n es).2.1):=by
 obtain ⟨p,c,rfl,N⟩:=G;refine J0 22 func114 rfl (rj ?_);refine K1 (zn (Z0 E0 fun O w1 E0 hgb1 e => ?_));refine K1 (zR zLS (Z1a E0 e.ext e.lt fun T w2 E0 e hgb2 ne_b1_b2 f=>ag (rM 14 ?_)));refine zA (rj (ag (rM 30 ?_)));refine zF (zX (X:=Nat) (fun i ρ w'=>Keep ρ [(1,.pointer (some ⟨O,0,none⟩)),(2,.pointer (some ⟨T,0,none⟩)),(3,.int .i64 0),(4,.int .i64 ((i:Nat):Int))]/\i<=es.length/\Ext w w'/\Blk w' O 82 [.int .i64 n,.slice p es.length c,.slice none 0 0]/\Blk w' T 82 [.int .i64 0,.slice none 0 0,.slice none 0 0]/\(es.take i).any badE=false) (fun i=>es.length-i) 0 ⟨(kp rfl),di _,E0,e,f,rfl⟩ ?_);rintro i ρ1 U ⟨Y,Z,E0,e,f,D⟩;refine wpe_k _ Y ?_;refine zA (rJ (K1 (zB zEL rfl (K1 (zD zEG rfl e rfl (K1 (zG zEm rfl (K8 rfl (rM 542 ?_)))))))));refine K0 rfl ?_ ?_<;>intro hc
 . have j:i<es.length:=t_lt hc;obtain ⟨eb,aa,rfl,I,ad,J⟩:=row_e (N.ext E0) j;have hval:=el_val J;refine sk (zA (zF (rj (K1 (zB zEL rfl (K1 (zD zEG rfl e rfl (mv (K1 (zDW zEm rfl rfl j (K1 (zB zSg rfl (K1 (zD zCz rfl I hval (K1 (j2 E0 e.ext f.ext yB (RCheck_ok (l:=(es.getD i el0).v) (V i j)) fun vi w2 E0 e f hr => ?_))))))))))))))));subst hr;refine K1 (zC (v := .bool (badE (es.getD i el0))) rfl rfl (sB (by unfold badE;generalize (zk (es.getD i el0).v).2=z;by_cases h:z=0<;>simp [h,bne])) ?_);refine rM 524318 ?_;refine K0 rfl ?_ ?_<;>intro hc
   . have t:badE (es.getD i el0)=true:=hc;have hany:es.any badE=true:=ig.2 ⟨_,fD j,by rw [cC,cY j] at t;exact t⟩;refine rj (K1 (zV (cs := #[.int .i64 0,.slice none 0 0,.slice none 0 0]) kR (K1 (zc zDa rfl f rfl (cw rfl) dE rfl fun U H G => ?_))));replace E0:=E0.upd H hgb2;replace e:=e.upd H ne_b1_b2;clear f;have f:=G;refine ag (rM 30 ?_);refine zE (zd (zU (zAP (zd (zU (zM ?_))))));rw [show doneS n es=(0,[],3) from cD hany];exact ⟨rfl,_,za rfl rfl rfl rfl zCs f rfl,E0,_,rfl,zCM⟩
   . have F:badE es[i]=false:=by
      have:badE (es.getD i el0)=false:=hc;rw [cC,cY j] at this;exact this
     refine zw (zN (zK (rI (K8 rfl (ag (rl (zL ?_)))))));exact ⟨rfl,i+1,⟨kw,oM,E0,e,f,by rw [dG j,List.any_append,D];simpa using F⟩,oM⟩
 . have ae:=f_lt hc;obtain rfl:i=es.length:=by omega
   rw [ej] at D;refine zT (zt (zf (zI (zK (rj (K1 (zh zCs rfl e (cw rfl) (K1 (zc zDa rfl f rfl (cw rfl) dE rfl fun U H G => ?_)))))))));replace E0:=E0.upd H hgb2;replace e:=e.upd H ne_b1_b2;clear f;have f:=G;refine ag (rM 30 ?_);refine zE (zM ?_);rw [show doneS n es=(n,es,0) from ct (by rw [D];decide)];exact ⟨rfl,_,za rfl rfl rfl rfl zCs f rfl,E0,_,rfl,p,c,rfl,N.ext E0⟩
theorem zIz (x:Rat):decide (x.num.sign<=0)=decide (¬ 0<x):=by
 by_cases h:0<x
 . have:x.num.sign=1:=zBl h;rw [this,cU (dE:¬ ((1:Int)<=0)),cU (fun e:¬ 0<x=>e h)]
 . by_cases f:x=0
   . rw [f];rfl
   . have:x.num.sign = -1:=zBk gR;rw [this,cZ h];rfl
theorem zHj (H:R.IsPoly w v p):Ret prog 110 #[v] w (fun r _=>r = .bool (p.all fun x=>decide (0<x))):=by
 obtain ⟨I,J,rfl,O,F,T⟩:=H;refine J0 16 func110 rfl (rj (ag (rM 5 ?_)));refine zA (rj (ag (rM 13 ?_)));refine zF (zX (X:=Nat) (fun i ρ w'=>Keep ρ [(0,.slice I p.length J),(2,.bool false),(3,.int .i64 ((i:Nat):Int))]/\i<=p.length/\Ext w w'/\(p.take i).all (fun x=>decide (0<x))=true) (fun i=>p.length-i) 0 ⟨(kp rfl),di _,E0,rfl⟩ ?_);rintro i ρ1 w1 ⟨N,U,E0,D⟩;refine wpe_k _ N ?_;refine zA (rJ (mv (K1 (zG R.slice26 rfl (K8 rfl (rM 141 ?_))))));refine K0 rfl ?_ ?_<;>intro h
 . have f:i<p.length:=t_lt h;have hP1:=F.ext E0;have hpi:p.getD i 0=p[i]:=by rw [cC,cY f];rfl
   refine sk (zA (zF (rJ (mv (K1 (R.runs_pindex (l:=p) hP1 rfl rfl f (K1 (R.runs_pload hP1 f rfl fun V G=>K1 (j0 E0 yB (R.Sign_ok G) fun vi w2 E0 hr => ?_)))))))));subst hr;rw [hpi];refine K1 (zC (v := .bool (decide (¬ 0<p[i]))) rfl rfl (sB (zIz p[i])) (rM 32781 ?_));refine K0 rfl ?_ ?_<;>intro h
   . have t:¬ 0<p[i]:=dh h;have z:(p.all fun x=>decide (0<x))=false:=by
      rw [List.all_eq_false];exact ⟨p[i],fD f,by simpa using t⟩
     refine rj (ag (rM 13 ?_));refine zE (zd (zU (zAP (zd (zU (zM ?_))))));exact ⟨rfl,_,zZ rfl rfl,E0,by rw [z];rfl⟩
   . have j:0<p[i]:=gm fun e=>by
      have h:decide (¬ 0<p[i])=false:=h;rw [cZ e] at h;cases h
     refine zw (zN (zK (rI (K8 rfl (ag (rl (zL ?_)))))));exact ⟨rfl,i+1,⟨kw,oM,E0,by rw [dG f,List.all_append,D];simpa using j⟩,oM⟩
 . have Y:=f_lt h;obtain rfl:i=p.length:=by omega
   rw [ej] at D;refine zT (zt (zf (zI (zK (rj (ag (rM 13 ?_)))))));refine zE (zM ?_);exact ⟨rfl,_,zZ rfl rfl,E0,by rw [D];rfl⟩
variable {a b k:Nat} {x y:Rat} {xs:List Nat}
theorem zRL (h:Qt a x) (k:Qt b y) (e:a+b<400000000):R.Room x y:=by
 have:=qt_sz h;have:=qt_sz k;unfold R.Room;omega
theorem zPw {T sz:Nat} {L f:List (List Value)} (e:L=f) (h:RowB T k sz xs w v L):RowB T k sz xs w v f:=e ▸ h
theorem oneRow_el1 {sz:Nat} (h:zCY 119 sz (elc el1) v w):RowB 119 8 sz [] w v ([el1].map elc):=by
 obtain ⟨b,rfl,e,f⟩:=h;exact ⟨fun r hr=>by rw [dI.1 hr];rfl,_,1,rfl,cX _,.inr ⟨b,_,rfl,e,sM,f,rfl,rfl⟩⟩
variable {qc:Nat} {l:List Rat} {om:Rat} {qp:Option Addr} {w':World}
def ladEl (r om:Rat):List Rat->Bool->Int->List El->Int×List El
 | [],_,n,es=>(n,es)
 | x :: l,true,n,es=>ladEl r om l false (n+1) (es++[⟨3,n,n+1,0,0,textS (x*r/om)⟩])
 | x :: l,false,n,es=>ladEl r om l true n (es++[⟨2,n,0,0,0,textS (x/(r*om))⟩])
def ladE (q:List Rat) (r om:Rat):Int×List El:=ladEl r om q.reverse true 1 [el1]
def ladO (s:Int×List El) (r:Rat):Int×List El×Int:=doneS s.1 (s.2++[⟨1,s.1,0,0,0,textS r⟩])
def ladN (q:List Rat) (r om:Rat):Int×List El×Int :=
 if q.length=0\/10<q.length\/(q.all fun x=>decide (0<x))=false\/¬ 0<r\/¬ 0<om then (0,[],7) else ladO (ladE q r om) r
theorem zRO (h:i<l.length):l.reverse.drop i=l.getD (l.length-1-i) 0 :: l.reverse.drop (i+1):=by
 rw [dZ (by simpa using h),List.getElem_reverse,cC,cY oM];rfl
theorem zIf {e:El} (h:∀ j,j<es.length->(es.getD j el0).v.length<1000000000) (he:e.v.length<1000000000):∀ j,j<(es++[e]).length->((es++[e]).getD j el0).v.length<1000000000:=fun j t=>by
 by_cases f:j<es.length
 . rw [cC,eS f,<- cC];exact h j f
 . rw [cC,fJ oM,show j-es.length=0 by simp at t;omega];exact he
theorem zLp (q:List Rat) (r om:Rat):q.length=0\/10<q.length\/((q.length≠0/\q.length<=10)/\(q.all fun x=>decide (0<x))=false)\/((q.length≠0/\q.length<=10)/\(q.all fun x=>decide (0<x))=true/\¬ 0<r) \/
 ((q.length≠0/\q.length<=10)/\(q.all fun x=>decide (0<x))=true/\0<r/\¬ 0<om)\/((q.length≠0/\q.length<=10)/\(q.all fun x=>decide (0<x))=true/\0<r/\0<om):=by
 by_cases e:q.length=0
 . exact .inl e
 by_cases j:10<q.length
 . exact .inr (.inl j)
 cases t:q.all fun x=>decide (0<x)
 . exact .inr (.inr (.inl ⟨⟨e,oM⟩,rfl⟩))
 by_cases f:0<r
 . by_cases h:0<om
   . exact .inr (.inr (.inr (.inr (.inr ⟨⟨e,oM⟩,rfl,f,h⟩))))
   . exact .inr (.inr (.inr (.inr (.inl ⟨⟨e,oM⟩,rfl,f,h⟩))))
 . exact .inr (.inr (.inr (.inl ⟨⟨e,oM⟩,rfl,f⟩)))
theorem szW (_:Ext w w'):∃ x,x=w':=⟨_,rfl⟩
theorem RNet_ok {vr vw:Value} {q:List Rat} {r:Rat} (an:R.PRd w qp q) (aA:q.length<=qc) (aB:q.length<=4096) (hr:R.IsR w vr r) (hw:R.IsR w vw om) (aR:∀ i,i<q.length->Qt 3000 (q.getD i 0)/\True) (qr:Qt 3000 r) (qw:Qt 3000 om):Ret prog 46 #[.slice qp q.length qc,vr,vw] w (fun r' w'=>∃ v,r' = .tuple #[v,.int .i64 (ladN q r om).2.2]/\NetIs w' v (ladN q r om).1 (ladN q r om).2.1):=by
 obtain ⟨rn,rd,aS,bo,bp⟩:=id hr;subst aS;obtain ⟨on,od,aU,bq,br⟩:=id hw;subst aU;have ao:=hr;have ap:=hw;refine J0 104 func46 rfl (rj ?_);refine K1 (zn (Z0 E0 fun b1 w1 E0 hgb1 V => ?_));refine K1 (zn (Z1a E0 V.ext V.lt fun b2 w2 E0 V hgb2 ne_b1_b2 ad => ?_));refine K1 (zR zLS (Z2b E0 V.ext ad.ext V.lt ad.lt fun b3 w3 E0 V ad hgb3 ne_b1_b3 ne_b2_b3 t=>ag (rM 241 ?_)));refine zA (zA ?_);rcases zLp q r om with h0 | h0 | ⟨h0,N⟩ | ⟨h0,N,ae⟩ | ⟨h0,N,ae,aq⟩ | ⟨h0,N,ae,aq⟩
 . have hS:ladN q r om=(0,[],7):=cD (.inl h0);have D:R.RAt b1 r _:=⟨_,V,rfl,ao.ext E0⟩;have F:R.RAt b2 om _:=⟨_,ad,rfl,ap.ext E0⟩;have T:=an.ext E0;refine rI (K1 (zG R.slice26 rfl (K1 (zC (v := .bool (true)) rfl rfl (sB (ge.2 oM)) (mv (K3 (K3 (K3 (pc0 rfl (mv (K3 (K3 (K3 (pc0 rfl (mv ?_)))))))))))))));refine K3 (K3 (K3 (pc0 rfl (mv (K3 (K3 (K3 (pc0 rfl (rS 8589934833 ?_)))))))));refine wct rfl (rj (K1 (zV (cs := #[.int .i64 0,.slice none 0 0,.slice none 0 0]) kR (K1 (zc zDa rfl t rfl (cw rfl) dE rfl fun w2 J H => ?_)))));replace E0:=E0.upd J hgb3;clear t;have t:=H;refine ag (rM 241 ?_);refine zE (zU (zM ?_));rw [hS];exact ⟨rfl,_,za rfl rfl rfl rfl zCs t rfl,E0,_,rfl,zCM⟩
 . have hS:ladN q r om=(0,[],7):=cD (.inr (.inl h0));have D:R.RAt b1 r _:=⟨_,V,rfl,ao.ext E0⟩;have F:R.RAt b2 om _:=⟨_,ad,rfl,ap.ext E0⟩;have T:=an.ext E0;refine rI (K1 (zG R.slice26 rfl (K1 (zC (v := .bool (false)) rfl rfl (sB (dk.2 oM)) (mv (K7 (K2 (zG R.slice26 rfl (K2 (zC (v := .bool (true)) rfl rfl (sB (cZ oM)) (pc0 rfl (mv (K3 (K3 (K3 (pc0 rfl (mv ?_)))))))))))))))));refine K3 (K3 (K3 (pc0 rfl (mv (K3 (K3 (K3 (pc0 rfl (rS 8589934833 ?_)))))))));refine wct rfl (rj (K1 (zV (cs := #[.int .i64 0,.slice none 0 0,.slice none 0 0]) kR (K1 (zc zDa rfl t rfl (cw rfl) dE rfl fun w2 J H => ?_)))));replace E0:=E0.upd J hgb3;clear t;have t:=H;refine ag (rM 241 ?_);refine zE (zU (zM ?_));rw [hS];exact ⟨rfl,_,za rfl rfl rfl rfl zCs t rfl,E0,_,rfl,zCM⟩
 . have hS:ladN q r om=(0,[],7):=cD (.inr (.inr (.inl N)));have D:R.RAt b1 r _:=⟨_,V,rfl,ao.ext E0⟩;have F:R.RAt b2 om _:=⟨_,ad,rfl,ap.ext E0⟩;have T:=an.ext E0;refine rI (K1 (zG R.slice26 rfl (K1 (zC (v := .bool (false)) rfl rfl (sB (dk.2 oM)) (mv (K7 (K2 (zG R.slice26 rfl (K2 (zC (v := .bool (false)) rfl rfl (sB (cU oM)) (pc0 rfl (mv (K7 (K2 (zJ yB (CallK.of_ret (zHj ⟨qp,qc,rfl,aA,T,aB⟩) fun vi w2 hE hr => ?_) rfl)))))))))))))));subst hr;rw [N];obtain ⟨E0,T,D,F,t⟩:=V4 hE E0 T.ext D.ext F.ext t.ext;refine K2 (zp rfl (pc0 rfl (mv (K3 (K3 (K3 (pc0 rfl (mv (K3 (K3 (K3 (pc0 rfl (rS 8589934833 ?_)))))))))))));refine wct rfl (rj (K1 (zV (cs := #[.int .i64 0,.slice none 0 0,.slice none 0 0]) kR (K1 (zc zDa rfl t rfl (cw rfl) dE rfl fun w2 J H => ?_)))));replace E0:=E0.upd J hgb3;clear t;have t:=H;refine ag (rM 241 ?_);refine zE (zU (zM ?_));rw [hS];exact ⟨rfl,_,za rfl rfl rfl rfl zCs t rfl,E0,_,rfl,zCM⟩
 . have hS:ladN q r om=(0,[],7):=cD (.inr (.inr (.inr (.inl ae))));have D:R.RAt b1 r _:=⟨_,V,rfl,ao.ext E0⟩;have F:R.RAt b2 om _:=⟨_,ad,rfl,ap.ext E0⟩;have T:=an.ext E0;refine rI (K1 (zG R.slice26 rfl (K1 (zC (v := .bool (false)) rfl rfl (sB (dk.2 oM)) (mv (K7 (K2 (zG R.slice26 rfl (K2 (zC (v := .bool (false)) rfl rfl (sB (cU oM)) (pc0 rfl (mv (K7 (K2 (zJ yB (CallK.of_ret (zHj ⟨qp,qc,rfl,aA,T,aB⟩) fun vi w2 hE hr => ?_) rfl)))))))))))))));subst hr;rw [N];obtain ⟨E0,T,D,F,t⟩:=V4 hE E0 T.ext D.ext F.ext t.ext;refine K2 (zp rfl (pc0 rfl (mv (K2 (R.runs_rAt rfl D fun v25 N25=>K2 (zJ yB (CallK.of_ret (R.Sign_ok N25) fun vi w2 hE hr => ?_) rfl))))));subst hr;obtain ⟨E0,T,D,F,t⟩:=V4 hE E0 T.ext D.ext F.ext t.ext;refine K2 (zC (v := .bool (true)) rfl rfl (sB ((zIz r).trans (cZ ae))) (pc0 rfl (mv (K3 (K3 (K3 (pc0 rfl (rS 8589934833 ?_))))))));refine wct rfl (rj (K1 (zV (cs := #[.int .i64 0,.slice none 0 0,.slice none 0 0]) kR (K1 (zc zDa rfl t rfl (cw rfl) dE rfl fun w2 J H => ?_)))));replace E0:=E0.upd J hgb3;clear t;have t:=H;refine ag (rM 241 ?_);refine zE (zU (zM ?_));rw [hS];exact ⟨rfl,_,za rfl rfl rfl rfl zCs t rfl,E0,_,rfl,zCM⟩
 . have hS:ladN q r om=(0,[],7):=cD (.inr (.inr (.inr (.inr aq))));have D:R.RAt b1 r _:=⟨_,V,rfl,ao.ext E0⟩;have F:R.RAt b2 om _:=⟨_,ad,rfl,ap.ext E0⟩;have T:=an.ext E0;refine rI (K1 (zG R.slice26 rfl (K1 (zC (v := .bool (false)) rfl rfl (sB (dk.2 oM)) (mv (K7 (K2 (zG R.slice26 rfl (K2 (zC (v := .bool (false)) rfl rfl (sB (cU oM)) (pc0 rfl (mv (K7 (K2 (zJ yB (CallK.of_ret (zHj ⟨qp,qc,rfl,aA,T,aB⟩) fun vi w2 hE hr => ?_) rfl)))))))))))))));subst hr;rw [N];obtain ⟨E0,T,D,F,t⟩:=V4 hE E0 T.ext D.ext F.ext t.ext;refine K2 (zp rfl (pc0 rfl (mv (K2 (R.runs_rAt rfl D fun v25 N25=>K2 (zJ yB (CallK.of_ret (R.Sign_ok N25) fun vi w2 hE hr => ?_) rfl))))));subst hr;obtain ⟨E0,T,D,F,t⟩:=V4 hE E0 T.ext D.ext F.ext t.ext;refine K2 (zC (v := .bool (false)) rfl rfl (sB ((zIz r).trans (cU (fun e=>e ae)))) (pc0 rfl (mv (K2 (R.runs_rAt rfl F fun v30 N30=>K2 (zJ yB (CallK.of_ret (R.Sign_ok N30) fun vi w2 hE hr => ?_) rfl))))));subst hr;obtain ⟨E0,T,D,F,t⟩:=V4 hE E0 T.ext D.ext F.ext t.ext;refine K2 (zC (v := .bool (true)) rfl rfl (sB ((zIz om).trans (cZ aq))) (pc0 rfl (rS 8589934833 ?_)))
   refine wct rfl (rj (K1 (zV (cs := #[.int .i64 0,.slice none 0 0,.slice none 0 0]) kR (K1 (zc zDa rfl t rfl (cw rfl) dE rfl fun w2 J H => ?_)))));replace E0:=E0.upd J hgb3;clear t;have t:=H;refine ag (rM 241 ?_);refine zE (zU (zM ?_));rw [hS];exact ⟨rfl,_,za rfl rfl rfl rfl zCs t rfl,E0,_,rfl,zCM⟩
 . have hS:ladN q r om=ladO (ladE q r om) r:=ct (by rw [N];simp;exact ⟨fun e=>h0.1 (by rw [e];rfl),h0.2,ae,aq⟩);have D:R.RAt b1 r _:=⟨_,V,rfl,ao.ext E0⟩;have F:R.RAt b2 om _:=⟨_,ad,rfl,ap.ext E0⟩;have T:=an.ext E0;refine rI (K1 (zG R.slice26 rfl (K1 (zC (v := .bool (false)) rfl rfl (sB (dk.2 oM)) (mv (K7 (K2 (zG R.slice26 rfl (K2 (zC (v := .bool (false)) rfl rfl (sB (cU oM)) (pc0 rfl (mv (K7 (K2 (zJ yB (CallK.of_ret (zHj ⟨qp,qc,rfl,aA,T,aB⟩) fun vi w2 hE hr => ?_) rfl)))))))))))))));subst hr;rw [N];obtain ⟨E0,T,D,F,t⟩:=V4 hE E0 T.ext D.ext F.ext t.ext;refine K2 (zp rfl (pc0 rfl (mv (K2 (R.runs_rAt rfl D fun v25 N25=>K2 (zJ yB (CallK.of_ret (R.Sign_ok N25) fun vi w2 hE hr => ?_) rfl))))));subst hr;obtain ⟨E0,T,D,F,t⟩:=V4 hE E0 T.ext D.ext F.ext t.ext;refine K2 (zC (v := .bool (false)) rfl rfl (sB ((zIz r).trans (cU (fun e=>e ae)))) (pc0 rfl (mv (K2 (R.runs_rAt rfl F fun v30 N30=>K2 (zJ yB (CallK.of_ret (R.Sign_ok N30) fun vi w2 hE hr => ?_) rfl))))));subst hr;obtain ⟨E0,T,D,F,t⟩:=V4 hE E0 T.ext D.ext F.ext t.ext;refine K2 (zC (v := .bool (false)) rfl rfl (sB ((zIz om).trans (cU (fun e=>e aq)))) (pc0 rfl (rS 8589934833 ?_)));refine wcf rfl (sk (zA ?_));have hEw:=E0
   obtain ⟨w1,aV⟩:=szW E0;have hgb3':=hgb3;subst aV;replace E0:=E0.self';refine K6 (K1 (zV (cs:=(elc el1).toArray) kR (K1 (zCk (e:=el1) rfl fun vo w7 hE hO => ?_))));have G:=oneRow_el1 (hO.le E0.size);replace E0:=E0.trans hE;obtain ⟨ab,rfl,-,-⟩:=hO;refine K1 (zV (cs := #[.int .i64 1,.slice (some ⟨ab,0,none⟩) 1 1,.slice none 0 0]) kR ?_);refine K1 (zR zLS fun nb w8 hb hE f hs => ?_);have hgnb:w1.heap.size<=nb:=by rw [hb];exact E0.size
   obtain ⟨E0,G⟩:=V1 hE E0 G.ext;refine K1 (zc zDa rfl f rfl (cw rfl) dE rfl fun w9 J H => ?_);replace E0:=E0.upd J hgnb;replace G:=G.upd J f dE;replace H:Blk w9 nb 82 [.int .i64 1,.slice (some ⟨ab,0,none⟩) 1 1,.slice none 0 0]:=H;clear f;have f:=H;refine rS 497 ?_;refine zA (rj (ag (rM 1009 ?_)));refine zF ?_;refine zX (X:=Nat) (fun i ρ w'=>∃ n ve es,Keep ρ [(0,.slice qp q.length qc),(4,.pointer (some ⟨b1,0,none⟩)),(5,.pointer (some ⟨b2,0,none⟩)),(6,.pointer (some ⟨b3,0,none⟩)),(7,.int .i64 0),(8,.pointer (some ⟨nb,0,none⟩)),(9,.int .i64 ((i:Nat):Int))]/\i<=q.length/\1<=n/\n<=1+(i:Int)/\es.length=1+i/\Ext w1 w'/\Blk w' nb 82 [.int .i64 n,ve,.slice none 0 0]/\RowB 119 8 w1.heap.size [] w' ve (es.map elc)/\ladEl r om (q.reverse.drop i) (decide (i%2=0)) n es=ladE q r om/\∀ j,j<es.length->(es.getD j el0).v.length<1000000000) (fun i=>q.length-i) 0 ⟨1,_,[el1],(kp rfl),di _,oM,oM,rfl,E0,f,G,rfl,fun j hj=>(by
    obtain rfl:j=0:=by simpa using hj
    decide)⟩ ?_
   rintro i bs w3 ⟨n,ve,es,z,bt,bu,bw,ar,E0,f,G,ah,aE⟩;refine wpe_k _ z ?_;refine zA (rJ (mv (K1 (zG R.slice26 rfl (K8 rfl (rM 2199023256561 ?_))))));refine K0 rfl ?_ ?_<;>intro hc
   . have aW:i<q.length:=t_lt hc;have hQ0:=T.ext E0;rw [zRO aW] at ah;obtain ⟨qx,bz⟩:=aR _ (oM:q.length-1-i<q.length);have hom0:om≠0:=by grind
     have aK:r*om≠0:=by have:=fh ae aq;grind
     have qm:=zOs qx qr;have qa:=zOr hom0 qm qw;have qn:=zOs qr qw;have qb:=zOr aK qx qn;refine sk (zA (zF (rJ (mv (K1 (zG R.slice26 rfl (K1 (zC (v := .int .i64 ((q.length-1:Nat):Int)) rfl rfl (sI ((zm oM oM).trans oM)) (mv (K1 (zC (v := .int .i64 ((q.length-1-i:Nat):Int)) rfl rfl (sI ((zm oM oM).trans oM)) (K1 (R.runs_pindex (l:=q) (ix:=q.length-1-i) hQ0 rfl rfl oM (K1 (R.runs_pload (l:=q) (i:=q.length-1-i) hQ0 oM rfl fun v51 aF => ?_)))))))))))))));refine K1 (zR R.zero50 fun xb w7 hb hE hXB hs => ?_);have hgxb:w1.heap.size<=xb:=by rw [hb];exact E0.size
     have aX:nb≠xb:=by have:=f.lt;omega
     obtain ⟨E0,f,G,aF⟩:=V3 hE E0 f.ext G.ext aF.ext;refine K1 (R.runs_rstoreK rfl aF (R.Cell3.of hXB rfl) fun _ w9 J ai => ?_);replace E0:=E0.upd J hgxb;replace f:=f.upd J aX;replace G:=G.upd J hXB dE;replace ai:R.RAt xb (q.getD (q.length-1-i) 0) _:=ai;refine rM 2033 ?_;refine zA ?_;rcases fy i with h2 | h2
     . rw [cZ h2,ladEl] at ah;refine rI (K1 (zAE (b:=2) (i%2) rfl rfl dE rfl ?_));refine K1 (zC (v := .bool (true)) rfl rfl (sB (by rw [h2];rfl)) ?_);refine rS 18014398509484017 ?_;refine wct rfl (zA ?_);have I:=D.ext E0;have Y:=F.ext E0
       refine zAR none 15 [[16],[1],[16],[1],[16],[1],[1],[20],[8],[3,1],[10],[3,1],[1],[19,13,1],[1]] mixed kR fun K hK=>du (fun hE z=>zB zEL z.1 eR) (du (fun hE z=>zD zEG z.1 (f.ext hE) rfl eR) (du (fun hE z=>zB zGO z.1 eR) (du (fun hE z=>zD zAT z.1 (f.ext hE) rfl eR) (du (fun hE z=>zB zGO z.1 eR) (du (fun hE z=>zD zAT z.1 (f.ext hE) rfl eR) (du (u := .int .i64 (n+1)) (fun hE z=>zC z.1 rfl (sI (zm oM oM)) eR) (dc (fun hE z=>R.runs_rAt z.1 (ai.ext hE) fun _=>eX) (dc (fun hE z=>R.runs_rAt z.1 (I.ext hE) fun _=>eX) (dl (fun hE z=>R.Mul_ok z.1 z.2.1 (zRL qx qr oM)) (dc (fun hE z=>R.runs_rAt z.1 (Y.ext hE) fun _=>eX) (dl (fun hE z=>R.over_ok z.1 z.2.1 (zRL qm qw oM)) (dL (fun v _=>v=S (textS ((q.getD (q.length-1-i) 0)*r/om))) (fun hE z=>R.Text_ok z.1 (zCS qa oM).1 (zCS qa oM).2) (du (u := .agg (elc ⟨3,n,n+1,0,0,textS ((q.getD (q.length-1-i) 0)*r/om)⟩).toArray) (fun hE z=>zMH rfl z.1 z.2.1 z.2.2.1 eR) ?_)))))))))))));refine dC (fun v w'=>zCY 119 0 (elc ⟨3,n,n+1,0,0,textS ((q.getD (q.length-1-i) 0)*r/om)⟩) v w') (fun hE z=>zCk z.1 fun v w2 hX h=>⟨hX,h.le (di _)⟩) (zAJ (hK _ fun wq hE => ?_))
       rintro _ rfl _ rfl _ rfl _ rfl _ rfl _ rfl bA bB bC bD bE bF bG bH bI bJ bK bL bO bP bQ bR bS aY;refine zY ?_;obtain ⟨E0,f,G,ai,I,Y⟩:=V5 hE E0 f.ext G.ext ai.ext I.ext Y.ext;refine K1 (zDI row79 rfl G aY (zMu _) rfl (by simp only [dJ,ar];omega) E0.size sM fun vx w9 H hR2 => ?_);replace E0:=H.ext _ (cX _) E0;replace f:=H.blk _ _ _ (.inr (.inr dE)) f;clear G;have G:=hR2;refine K1 (zB zEL rfl ?_);refine K1 (zc zRe rfl f (by obtain ⟨pe,ce,rfl⟩:=G.form;rfl) (cw rfl) dE (by obtain ⟨pe,ce,rfl⟩:=G.form;rfl) fun w9 J H => ?_);replace E0:=E0.upd J hgnb;replace G:=G.upd J f dE;obtain ⟨pe,ce,rfl⟩:=G.form;replace H:Blk w9 nb 82 [.int .i64 n,.slice pe (es.map elc++[elc ⟨3,n,n+1,0,0,textS ((q.getD (q.length-1-i) 0)*r/om)⟩]).length ce,.slice none 0 0]:=H;clear f;have f:=H;refine zAh (zK (K5 [0,4,5,6,7,8,9] ?_));refine K6 (K1 (zB zGO rfl (K1 (zD zAT rfl f rfl (K1 (zC (v := .int .i64 (n+1)) rfl rfl (sI (zm oM oM)) (K1 (zB zGO rfl (K1 (zc size3 rfl f rfl (cw rfl) dE rfl fun w9 J H => ?_))))))))));replace E0:=E0.upd J hgnb;replace G:=G.upd J f dE
       replace H:Blk w9 nb 82 [.int .i64 (n+1),.slice pe (es.map elc++[elc ⟨3,n,n+1,0,0,textS ((q.getD (q.length-1-i) 0)*r/om)⟩]).length ce,.slice none 0 0]:=H;clear f;have f:=H;have fa:=zCS qa oM;have Z:=zIf (e:=⟨3,n,n+1,0,0,textS ((q.getD (q.length-1-i) 0)*r/om)⟩) aE (zHC fa.1 fa.2 (by have:=qt_sz qa;omega));obtain ⟨n2,aw⟩:∃ n2,n2=n+1:=⟨_,rfl⟩;obtain ⟨U,O⟩:∃ U,U=es++[(⟨3,n,n+1,0,0,textS ((q.getD (q.length-1-i) 0)*r/om)⟩:El)]:=⟨_,rfl⟩;have ax:U.length=1+(i+1):=by rw [O,dN,ar];rfl
       have ay:ladEl r om (q.reverse.drop (i+1)) (decide ((i+1)%2=0)) n2 U=ladE q r om:=by rw [cU oM,aw,O];exact ah
       replace G:=zPw (show es.map elc++[elc _]=U.map elc from by rw [O,eK];rfl) G;rw [<- O] at Z;replace f:Blk w9 nb 82 [.int .i64 n2,.slice pe (es.map elc++[elc ⟨3,n,n+1,0,0,textS ((q.getD (q.length-1-i) 0)*r/om)⟩]).length ce,.slice none 0 0]:=by rw [aw];exact f
       have aG:1<=n2:=oM
       have aH:n2<=1+((i+1:Nat):Int):=oM
       refine rl (zN (zK (K5 [0,4,5,6,7,8,9] ?_)));exact rI (K8 rfl (ag (rl (zL (⟨rfl,i+1,⟨n2,_,U,kw,oM,aG,aH,ax,E0,f,G,ay,Z⟩,oM⟩)))))
     . rw [cU oM,ladEl] at ah;refine rI (K1 (zAE (b:=2) (i%2) rfl rfl dE rfl ?_));refine K1 (zC (v := .bool (false)) rfl rfl (sB (by rw [h2];rfl)) ?_);refine rS 18014398509484017 ?_;refine wcf rfl ?_;have I:=D.ext E0;have Y:=F.ext E0;refine zAR none 12 [[16],[1],[16],[1],[20],[8],[10],[3,1],[7,1],[1],[13,1],[1]] mixed kR fun K hK=>du (fun hE z=>zB zEL z.1 eR) (du (fun hE z=>zD zEG z.1 (f.ext hE) rfl eR) (du (fun hE z=>zB zGO z.1 eR) (du (fun hE z=>zD zAT z.1 (f.ext hE) rfl eR) (dc (fun hE z=>R.runs_rAt z.1 (ai.ext hE) fun _=>eX) (dc (fun hE z=>R.runs_rAt z.1 (I.ext hE) fun _=>eX) (dc (fun hE z=>R.runs_rAt z.1 (Y.ext hE) fun _=>eX) (dl (fun hE z=>R.Mul_ok z.1 z.2.1 (zRL qr qw oM)) (dl (fun hE z=>R.over_ok z.1 z.2.1 (zRL qx qn oM)) (dL (fun v _=>v=S (textS ((q.getD (q.length-1-i) 0)/(r*om)))) (fun hE z=>R.Text_ok z.1 (zCS qb oM).1 (zCS qb oM).2) (du (u := .agg (elc ⟨2,n,0,0,0,textS ((q.getD (q.length-1-i) 0)/(r*om))⟩).toArray) (fun hE z=>zIM rfl z.1 z.2.1 eR) (dC (fun v w'=>zCY 119 0 (elc ⟨2,n,0,0,0,textS ((q.getD (q.length-1-i) 0)/(r*om))⟩) v w') (fun hE z=>zCk z.1 fun v w2 hX h=>⟨hX,h.le (di _)⟩) (zAJ (hK _ fun wq hE => ?_)))))))))))))
       rintro _ rfl _ rfl _ rfl _ rfl bT bU bV bW bX bY bZ b0 aa aj ak b4 b5 b6 b7 aZ;refine zY ?_;obtain ⟨E0,f,G,ai,I,Y⟩:=V5 hE E0 f.ext G.ext ai.ext I.ext Y.ext;refine K1 (zDI row79 rfl G aZ (zMu _) rfl (by simp only [dJ,ar];omega) E0.size sM fun vx w9 H hR2 => ?_);replace E0:=H.ext _ (cX _) E0;replace f:=H.blk _ _ _ (.inr (.inr dE)) f;clear G;have G:=hR2;refine K1 (zB zEL rfl ?_);refine K1 (zc zRe rfl f (by obtain ⟨pe,ce,rfl⟩:=G.form;rfl) (cw rfl) dE (by obtain ⟨pe,ce,rfl⟩:=G.form;rfl) fun w9 J H => ?_);replace E0:=E0.upd J hgnb;replace G:=G.upd J f dE;obtain ⟨pe,ce,rfl⟩:=G.form;replace H:Blk w9 nb 82 [.int .i64 n,.slice pe (es.map elc++[elc ⟨2,n,0,0,0,textS ((q.getD (q.length-1-i) 0)/(r*om))⟩]).length ce,.slice none 0 0]:=H;clear f;have f:=H;have fb:=zCS qb oM;have Z:=zIf (e:=⟨2,n,0,0,0,textS ((q.getD (q.length-1-i) 0)/(r*om))⟩) aE (zHC fb.1 fb.2 (by have:=qt_sz qb;omega));obtain ⟨n2,aw⟩:∃ n2,n2=n:=⟨_,rfl⟩;obtain ⟨U,O⟩:∃ U,U=es++[(⟨2,n,0,0,0,textS ((q.getD (q.length-1-i) 0)/(r*om))⟩:El)]:=⟨_,rfl⟩;have ax:U.length=1+(i+1):=by rw [O,dN,ar];rfl
       have ay:ladEl r om (q.reverse.drop (i+1)) (decide ((i+1)%2=0)) n2 U=ladE q r om:=by rw [cZ oM,aw,O];exact ah
       replace G:=zPw (show es.map elc++[elc _]=U.map elc from by rw [O,eK];rfl) G;rw [<- O] at Z;replace f:Blk w9 nb 82 [.int .i64 n2,.slice pe (es.map elc++[elc ⟨2,n,0,0,0,textS ((q.getD (q.length-1-i) 0)/(r*om))⟩]).length ce,.slice none 0 0]:=by rw [aw];exact f
       have aG:1<=n2:=oM
       have aH:n2<=1+((i+1:Nat):Int):=oM
       refine zAh (zN (zK (K5 [0,4,5,6,7,8,9] ?_)));exact rI (K8 rfl (ag (rl (zL (⟨rfl,i+1,⟨n2,_,U,kw,oM,aG,aH,ax,E0,f,G,ay,Z⟩,oM⟩)))))
   . have b8:=f_lt hc;obtain rfl:i=q.length:=by omega
     have ah:(n,es)=ladE q r om:=by rw [<- ah,eJ sM];cases decide (q.length%2=0)<;>rfl
     have I:=D.ext E0;refine zT (zt (zf (zI (zK (zA ?_)))))
     skip
     refine zAR none 8 [[16],[1],[16],[1],[8],[1],[5,1],[1]] mixed kR fun K hK=>du (fun hE z=>zB zEL z.1 eR) (du (fun hE z=>zD zEG z.1 (f.ext hE) rfl eR) (du (fun hE z=>zB zGO z.1 eR) (du (fun hE z=>zD zAT z.1 (f.ext hE) rfl eR) (dc (fun hE z=>R.runs_rAt z.1 (I.ext hE) fun _=>eX) (dL (fun v _=>v=S (textS (r))) (fun hE z=>R.Text_ok z.1 (zCS qr oM).1 (zCS qr oM).2) (du (u := .agg (elc ⟨1,n,0,0,0,textS r⟩).toArray) (fun hE z=>zIM rfl z.1 z.2.1 eR) (dC (fun v w'=>zCY 119 0 (elc ⟨1,n,0,0,0,textS r⟩) v w') (fun hE z=>zCk z.1 fun v w2 hX h=>⟨hX,h.le (di _)⟩) (zAJ (hK _ fun wq hE => ?_)))))))));rintro _ rfl _ rfl _ rfl _ rfl v94 N94 v95 N95 v96 N96 v97 N97;refine zY ?_;obtain ⟨E0,f,G,I⟩:=V3 hE E0 f.ext G.ext I.ext;refine K1 (zDI row79 rfl G N97 (zMu _) rfl (by simp only [dJ,ar];omega) E0.size sM fun vx w9 H hR2 => ?_);replace E0:=H.ext _ (cX _) E0;replace f:=H.blk _ _ _ (.inr (.inr dE)) f;clear G;have G:=hR2;refine K1 (zB zEL rfl ?_);refine K1 (zc zRe rfl f (by obtain ⟨pe,ce,rfl⟩:=G.form;rfl) (cw rfl) dE (by obtain ⟨pe,ce,rfl⟩:=G.form;rfl) fun w9 J H => ?_)
     replace E0:=E0.upd J hgnb;replace G:=G.upd J f dE;obtain ⟨pe,ce,rfl⟩:=G.form;replace H:Blk w9 nb 82 [.int .i64 n,.slice pe (es.map elc++[elc ⟨1,n,0,0,0,textS r⟩]).length ce,.slice none 0 0]:=H;clear f;have f:=H;refine zAh (zK (K5 [0,4,5,6,7,8,9] ?_));refine rj (K1 (zh zCs rfl f (cw rfl) ?_));replace G:=zPw (show es.map elc++[elc (⟨1,n,0,0,0,textS r⟩:El)]=(es++[(⟨1,n,0,0,0,textS r⟩:El)]).map elc from by rw [eK];rfl) G;have fc:=zCS qr oM;have Z:=zIf (e:=⟨1,n,0,0,0,textS r⟩) aE (zHC fc.1 fc.2 (by have:=qt_sz qr;omega));obtain ⟨pe,ce,e1,a0⟩:=G.rd;rw [e1,dJ] at f ⊢;refine K1 (zJ yB (CallK.of_ret (zHD (n:=n) (es:=es++[(⟨1,n,0,0,0,textS r⟩:El)]) ⟨pe,ce,rfl,a0⟩ (by rw [dN,ar];show 1+q.length+1<_;omega) Z) fun vd w9 hE hr => ?_) rfl);obtain ⟨vn,rfl,aM⟩:=hr;replace t:=(t.ext E0).ext hE;replace E0:=(hEw.trans E0).trans hE;refine xt rfl (xt rfl ?_);obtain ⟨pn,cn,rfl,a9⟩:=aM;refine K1 (zc zDa rfl t rfl (cw rfl) dE rfl fun w2 J H => ?_);have aN:=a9.upd J t dE;replace E0:=E0.upd J hgb3';clear t;have t:=H;refine ag (rM 1009 ?_);refine zE (zM ?_);rw [hS,<- ah]
     exact ⟨rfl,_,za rfl rfl rfl rfl zCs t rfl,E0,_,rfl,pn,cn,rfl,aN⟩
variable {K:Value->World->Prop} {af:Array Edge} {g:Option (Nat×Bool)} {pos:String} {r:Option Nat} {ty:TypeId} {u:Value} {σ:Operand->Value}
section laws
variable {d:Option Tmp}
theorem zLH {x y:Operand} {p q:Rat} (j:IsNum w (σ x) p) (t:IsNum w (σ y) q) (z:∀ v w',Ext w w'->IsPoly w' v [p,q]->K v w'):Runs prog r ⟨d,.buildSlice 25 2 #[(0,x),(1,y)],ty,pos,af,g⟩ σ w K:=by
 have e:=j;have hy0:=t;obtain ⟨n,D,he,N,O⟩:=j;obtain ⟨F,h,f,I,J⟩:=t;rw [he] at e;rw [f] at hy0;refine zi (cs:=[.bool (decide (p<0)),n,D,.bool (decide (q<0)),F,h]) zAs info37' dE dE ?_ fun b w' hb hE G hs'=>z _ _ hE ⟨some ⟨b,0,none⟩,2,rfl,cX _,.inr ⟨b,0,_,rfl,G,sM,fun i H => ?_⟩,sM⟩
 . show Instr.fill _ _ [(0,σ x),(1,σ y)]=_;rw [he,f]
   kernel_rfl
 . match i,H with
   | 0,_=>exact e.ext hE
   | 1,_=>exact hy0.ext hE
end laws
theorem zKA (b c:Rat):(!([b,c].any fun x=>decide (¬ 0<x)))=decide (0<b/\0<c):=by
 by_cases e:0<b<;>by_cases h2:0<c<;>simp [e,h2]
theorem Same1_ok (f:IsNum w u x) (h:R.IsR w v x) (D:Fine x.num.natAbs) (F:Fine x.den) (G:Pow10 w):Ret prog 31 #[u,v] w (fun r _=>r = .bool true):=by
 obtain ⟨O,T,t,H,I⟩:=id f;subst t;obtain ⟨U,V,z,J,N⟩:=id h;subst z;refine J0 10 func31 rfl (rj ?_);refine K1 (zn (Z2 E0 f.ext h.ext fun b1 w1 E0 f h hgb1 e => ?_));refine K1 (zn (Z3a E0 f.ext h.ext e.ext e.lt fun b2 w2 E0 f h e hgb2 ne_b1_b2 j=>ag (rM 12 ?_)));refine zA ?_;have hX:NumAt b1 x _:=⟨_,e,rfl,f⟩;have hY:R.RAt b2 x _:=⟨_,j,rfl,h⟩;refine zAe [[4],[1],[6],[1],[5,1],[1]] mixed kR fun K hK=>dc (fun hE hk=>zW hk.1 (hX.ext hE) fun _=>eX) (dL (fun v _=>v=S (textS x)) (fun hE hk=>zJc hk.1 D F ((G.ext E0).ext hE)) (dc (fun hE hk=>R.runs_rAt hk.1 (hY.ext hE) fun _=>eX) (dL (fun v _=>v=S (textS x)) (fun hE hk=>R.Text_ok hk.1 D F) (du (u := .bool true) (fun hE hk=>zAk hk.1 hk.2.1 ⟨Ext.refl _,cW Value.bool (beq_self_eq_true _)⟩) (dA aL (zAJ (hK _ fun wq hE => ?_)))))));rintro v5 N5 v6 N6 v7 N7 v8 N8 v9 N9 v4 N4;refine zY ?_;obtain ⟨E0,f,h,e,j⟩:=V4 hE E0 f.ext h.ext e.ext j.ext;refine zK (K5 [4] ?_);refine zE (zM ?_);subst N4;exact ⟨rfl,_,zZ rfl rfl,E0,rfl⟩
theorem zRu (t:IsPoly w u p) (z:R.IsPoly w v p) (D:∀ i,i<p.length->Fine (p.getD i 0).num.natAbs/\Fine (p.getD i 0).den) (F:Pow10 w):Ret prog 26 #[u,v] w (fun r _=>r = .bool true):=by
 obtain ⟨pp,G,rfl,J,h,N⟩:=t;obtain ⟨qp,qc,rfl,O,j,T⟩:=z;refine J0 27 func26 rfl (rj (ag (rM 3 ?_)));refine zA (rJ (K1 (zG zAC rfl (mv (K1 (zG R.slice26 rfl (K1 (zC (v := .bool false) rfl rfl (sB sM) (rM 1027 ?_)))))))));refine wcf rfl (sk (zA (rj (ag (rM 35 ?_)))));refine zF (zX (X:=Nat) (fun i ρ w'=>Keep ρ [(0,.slice pp p.length G),(1,.slice qp p.length qc),(5,.int .i64 ((i:Nat):Int))]/\i<=p.length/\Ext w w') (fun i=>p.length-i) 0 ⟨(kp rfl),di _,E0⟩ ?_);rintro i ρ1 w1 ⟨e,U,E0⟩;refine wpe_k _ e ?_;refine zA (rJ (mv (K1 (zG zAC rfl (K8 rfl (rM 16419 ?_))))));refine K0 rfl ?_ ?_<;>intro hc
 . have f:i<p.length:=t_lt hc;obtain ⟨H,I⟩:=D i f;refine sk (zA (zF (zA (zAe [[0],[10],[3,1],[1],[2],[10],[3,1],[1],[9,1],[1]] mixed kR fun K hK=>dM aL (dM aL (du (fun hE e=>runs_pindex (ix:=i) (h.ext (E0.trans hE)) e.1 e.2.1 f eR) (dc (fun hE e=>runs_pload (l:=p) (i:=i) (h.ext (E0.trans hE)) f e.1 fun _=>eX) (dM aL (dM aL (du (fun hE e=>R.runs_pindex (l:=p) (ix:=i) (j.ext (E0.trans hE)) e.1 e.2.1 f eR) (dc (fun hE e=>R.runs_pload (l:=p) (i:=i) (j.ext (E0.trans hE)) f e.1 fun _=>eX) (dL (fun v _=>v = .bool true) (fun hE e=>Same1_ok e.1 e.2.1 H I ((F.ext E0).ext hE)) ?_))))))))))));refine du (fun hE e=>zp e.1 eR) (zAJ (hK _ fun wq hE => ?_));rintro _ rfl _ rfl v19 N19 v20 N20 _ rfl _ rfl v23 N23 v24 N24 v25 N25 _ rfl;refine zY ?_;replace E0:=E0.trans hE;refine zK (K5 [0,1,5,26] ?_);refine wcf (by subst N25;rfl) ?_;exact zw (zN (zK (rI (K8 rfl (ag (rl (zL (⟨rfl,i+1,⟨kw,oM,E0⟩,oM⟩))))))))
 . skip
   refine zT (zt (zf (zI (zK (rj (ag (rM 51 ?_)))))));exact zE (en rfl E0 rfl)
variable {E ab bb bx c cb n:Nat} {cs':List Value} {rows:List (List Value)} {w1 w2:World}
theorem zero166:(prog.info? 166).bind (·.zero)=some (.pointer none):=kR
theorem zero3c:(prog.info? 3).bind (·.zero)=some (.int .i64 0):=kR
theorem zero4c:(prog.info? 4).bind (·.zero)=some (.bool false):=kR
theorem size166:(prog.info? 166).map (·.size)=some 1:=kR
theorem zTP:(prog.info? 4).map (·.size)=some 1:=kR
theorem zJq:Plain prog 166:=pU
theorem zHl (l:List Rat):(!(l.any fun x=>decide (¬ 0<x)))=l.all fun x=>decide (0<x):=by
 induction l with
 | nil=>rfl
 | cons a l e =>
  rw [List.any_cons,List.all_cons,Bool.not_or,e];by_cases h:0<a<;>simp [h]
theorem RowB.le {sz:Nat} {x:List Nat} (h:RowB E n sz x w v rows) (j:BlkLe w w'):RowB E n sz x w' v rows:=by
 obtain ⟨t,p,c,z,D,e⟩:=h;refine ⟨t,p,c,z,D,?_⟩;rcases e with e | ⟨b,cs,F,G,H,f⟩
 . exact .inl e
 . exact .inr ⟨b,cs,F,G,H,j _ _ _ f.1,f.2⟩
theorem Blk.other {T f:Nat} (h:Blk w b T cs) (j:Upd c w w') (t:Blk w c f cs') (z:T≠f):Blk w' b T cs:=h.upd j fun e=>by subst e;exact z (h.inj t).1
theorem tops_one1 {n:Int} (h:1<=n) (t:List UInt8):tops n [⟨3,n,n+1,0,0,t⟩]=n+1:=by
 unfold tops;rw [List.foldl_cons,zTS (m:=n+1) oM (by show n<=_;omega) (by show n+1<=_;omega) (by show (0:Int)<=_;omega) (by show (0:Int)<=_;omega) (.inr (.inr (.inl rfl)))];rfl
theorem zPO {n:Int} (h:1<=n) (k:Int) (t:List UInt8):tops n [⟨k,n,0,0,0,t⟩]=n:=by
 unfold tops;rw [List.foldl_cons,zTS (m:=n) oM (by show n<=_;omega) (by show (0:Int)<=_;omega) (by show (0:Int)<=_;omega) (by show (0:Int)<=_;omega) (.inl rfl)];rfl
def NetI (w1:World) (bx e ab cb bb qc:Nat) (qp:Option Addr) (q:List Rat) (r om:Rat) (i:Nat) (w':World):Prop :=
 ∃ n ve es,(1<=n/\n<=1+(i:Int)/\es.length=1+i/\ladEl r om (q.reverse.drop i) (decide (i%2=0)) n es=ladE q r om/\∀ j,j<es.length->(es.getD j el0).v.length<1000000000)/\Ext w1 w'/\Blk w' bx 25 [.slice qp q.length qc]/\Blk w' e 166 [.pointer (some ⟨bb,0,none⟩)]/\Blk w' ab 3 [.int .i64 n]/\Blk w' cb 4 [.bool (decide (i%2=0))] /\
  Blk w' bb 169 [.int .i64 n,ve,.slice none 0 0]/\RowB 119 8 w1.heap.size [] w' ve (es.map elc)
theorem NetI.ext {f:Nat} {q:List Rat} {r:Rat} (h:NetI w1 bx f ab cb bb qc qp q r om i w') (e:Ext w' w2):NetI w1 bx f ab cb bb qc qp q r om i w2:=by
 obtain ⟨n,ve,es,j,t,z,D,F,G,H,I⟩:=h;exact ⟨n,ve,es,j,t.trans e,z.ext e,D.ext e,F.ext e,G.ext e,H.ext e,I.ext e⟩
theorem NetI.oth {f l:Nat} {q:List Rat} {r:Rat} (h:NetI w1 bx f ab cb bb qc qp q r om i w') (e:OthX l w' w2) (j:w1.heap.size<=l):NetI w1 bx f ab cb bb qc qp q r om i w2:=by
 obtain ⟨n,ve,es,t,z,D,F,G,H,I,J⟩:=h;exact ⟨n,ve,es,t,z.oth e j,D.oth e,F.oth e,G.oth e,H.oth e,I.oth e,J.le e.le⟩
theorem RowR.oth {l:Nat} {p:Option Addr} (h:RowR E n w p rows) (e:OthX l w w'):RowR E n w' p rows:=by
 rcases h with h | ⟨b,cs',f,j,t,z⟩
 . exact .inl h
 . exact .inr ⟨b,cs',f,j.oth e,t,z⟩
theorem Net_ok {vr vw:Value} {q:List Rat} {r:Rat} (aC:PRd w qp q) (aV:q.length<=qc) (aH:q.length<=4096) (hr:IsNum w vr r) (hw:IsNum w vw om) (bw:∀ i,i<q.length->Qt 3000 (q.getD i 0)/\True) (qr:Qt 3000 r) (qw:Qt 3000 om) (hP:Pow10 w):Ret prog 45 #[.slice qp q.length qc,vr,vw] w (fun r' w'=>∃ v,r' = .tuple #[v,.int .i64 (ladN q r om).2.2]/\NetIs w' v (ladN q r om).1 (ladN q r om).2.1):=by
 have aD:=hr;have aE:=hw;obtain ⟨rn,rd,rfl,bX,bY⟩:=hr;obtain ⟨on,od,rfl,bZ,b0⟩:=hw;have E0:Ext w w:=Ext.refl w;refine ret_of_wpeM2 77 func45 rfl rfl (cw rfl) (rj ?_);refine K1 (zn (Z0 E0 fun b1 w1 E0 hgb1 ai => ?_));refine K1 (zn (Z1a E0 ai.ext ai.lt fun b2 w2 E0 ai hgb2 ne_b1_b2 Z => ?_));refine K1 (zR zLS (Z2b E0 ai.ext Z.ext ai.lt Z.lt fun b3 w3 E0 ai Z hgb3 ne_b1_b3 ne_b2_b3 F=>ag (rM 113 ?_)));refine zA (zA ?_);rcases zLp q r om with h0 | h0 | ⟨h0,ah⟩ | ⟨h0,ah,ax⟩ | ⟨h0,ah,ax,av⟩ | ⟨h0,ah,ax,av⟩
 . have hS:ladN q r om=(0,[],7):=cD (.inl h0);have I:NumAt b1 r _:=⟨_,ai,rfl,aD.ext E0⟩;have N:NumAt b2 om _:=⟨_,Z,rfl,aE.ext E0⟩;have hQ:=aC.ext E0;refine rI (K1 (zG zAC rfl (K1 (zC (v := .bool (true)) rfl rfl (sB (ge.2 oM)) (mv (K3 (K3 (K3 (pc0 rfl (mv (K3 (K3 (K3 (pc0 rfl (mv ?_)))))))))))))));refine K3 (K3 (K3 (K3 (K3 (pc0 rfl (rS 4294967409 ?_))))));refine wct rfl (rj (K1 (zV (cs := #[.int .i64 0,.slice none 0 0,.slice none 0 0]) kR (K1 (zc zDa rfl F rfl (cw rfl) dE rfl fun w2 H Y => ?_)))));replace E0:=E0.upd H hgb3;clear F;have F:=Y;refine ag (rM 192 ?_);refine zE (zU (zM ?_));rw [hS];exact .inl ⟨rfl,_,za rfl rfl rfl rfl zCs F rfl,E0,_,rfl,zCM⟩
 . have hS:ladN q r om=(0,[],7):=cD (.inr (.inl h0));have I:NumAt b1 r _:=⟨_,ai,rfl,aD.ext E0⟩;have N:NumAt b2 om _:=⟨_,Z,rfl,aE.ext E0⟩;have hQ:=aC.ext E0;refine rI (K1 (zG zAC rfl (K1 (zC (v := .bool (false)) rfl rfl (sB (dk.2 oM)) (mv (K7 (K2 (zG zAC rfl (K2 (zC (v := .bool (true)) rfl rfl (sB (cZ oM)) (pc0 rfl (mv (K3 (K3 (K3 (pc0 rfl (mv ?_)))))))))))))))));refine K3 (K3 (K3 (K3 (K3 (pc0 rfl (rS 4294967409 ?_))))));refine wct rfl (rj (K1 (zV (cs := #[.int .i64 0,.slice none 0 0,.slice none 0 0]) kR (K1 (zc zDa rfl F rfl (cw rfl) dE rfl fun w2 H Y => ?_)))));replace E0:=E0.upd H hgb3;clear F;have F:=Y;refine ag (rM 192 ?_);refine zE (zU (zM ?_));rw [hS];exact .inl ⟨rfl,_,za rfl rfl rfl rfl zCs F rfl,E0,_,rfl,zCM⟩
 . have hS:ladN q r om=(0,[],7):=cD (.inr (.inr (.inl ah)));have I:NumAt b1 r _:=⟨_,ai,rfl,aD.ext E0⟩;have N:NumAt b2 om _:=⟨_,Z,rfl,aE.ext E0⟩;have hQ:=aC.ext E0;refine rI (K1 (zG zAC rfl (K1 (zC (v := .bool (false)) rfl rfl (sB (dk.2 oM)) (mv (K7 (K2 (zG zAC rfl (K2 (zC (v := .bool (false)) rfl rfl (sB (cU oM)) (pc0 rfl (mv (K7 (K2 (zJ yB (CallK.of_ret (zFj ⟨qp,qc,rfl,aV,hQ,aH⟩) fun vi w2 G hr => ?_) rfl)))))))))))))));subst hr;rw [zHl,ah];obtain ⟨E0,hQ,I,N,F⟩:=V4 G E0 hQ.ext I.ext N.ext F.ext;refine K2 (zp rfl (pc0 rfl (mv (K3 (K3 (K3 (K3 (K3 (pc0 rfl (rS 4294967409 ?_))))))))));refine wct rfl (rj (K1 (zV (cs := #[.int .i64 0,.slice none 0 0,.slice none 0 0]) kR (K1 (zc zDa rfl F rfl (cw rfl) dE rfl fun w2 H Y => ?_)))));replace E0:=E0.upd H hgb3;clear F;have F:=Y;refine ag (rM 192 ?_);refine zE (zU (zM ?_));rw [hS];exact .inl ⟨rfl,_,za rfl rfl rfl rfl zCs F rfl,E0,_,rfl,zCM⟩
 . have hS:ladN q r om=(0,[],7):=cD (.inr (.inr (.inr (.inl ax))));have I:NumAt b1 r _:=⟨_,ai,rfl,aD.ext E0⟩;have N:NumAt b2 om _:=⟨_,Z,rfl,aE.ext E0⟩;have hQ:=aC.ext E0;refine rI (K1 (zG zAC rfl (K1 (zC (v := .bool (false)) rfl rfl (sB (dk.2 oM)) (mv (K7 (K2 (zG zAC rfl (K2 (zC (v := .bool (false)) rfl rfl (sB (cU oM)) (pc0 rfl (mv (K7 (K2 (zJ yB (CallK.of_ret (zFj ⟨qp,qc,rfl,aV,hQ,aH⟩) fun vi w2 G hr => ?_) rfl)))))))))))))));subst hr;rw [zHl,ah];obtain ⟨E0,hQ,I,N,F⟩:=V4 G E0 hQ.ext I.ext N.ext F.ext;refine K2 (zp rfl (pc0 rfl (mv (K2 (zW rfl I fun v27 N27=>K2 (zW rfl N fun v28 N28=>K2 (zLH (p:=r) (q:=om) N27 N28 fun v29 w29 G hY => ?_)))))));obtain ⟨E0,hQ,I,N,F⟩:=V4 G E0 hQ.ext I.ext N.ext F.ext;refine K2 (zJ yB (CallK.of_ret (zFj hY) fun vi w2 G hr => ?_) rfl);subst hr;rw [zKA,cU (fun e:0<r/\0<om=>ax e.1)];obtain ⟨E0,hQ,I,N,F⟩:=V4 G E0 hQ.ext I.ext N.ext F.ext;refine K2 (zp rfl (pc0 rfl (rS 4294967409 ?_)));refine wct rfl (rj (K1 (zV (cs := #[.int .i64 0,.slice none 0 0,.slice none 0 0]) kR (K1 (zc zDa rfl F rfl (cw rfl) dE rfl fun w2 H Y => ?_)))));replace E0:=E0.upd H hgb3
   clear F;have F:=Y;refine ag (rM 192 ?_);refine zE (zU (zM ?_));rw [hS];exact .inl ⟨rfl,_,za rfl rfl rfl rfl zCs F rfl,E0,_,rfl,zCM⟩
 . have hS:ladN q r om=(0,[],7):=cD (.inr (.inr (.inr (.inr av))));have I:NumAt b1 r _:=⟨_,ai,rfl,aD.ext E0⟩;have N:NumAt b2 om _:=⟨_,Z,rfl,aE.ext E0⟩;have hQ:=aC.ext E0;refine rI (K1 (zG zAC rfl (K1 (zC (v := .bool (false)) rfl rfl (sB (dk.2 oM)) (mv (K7 (K2 (zG zAC rfl (K2 (zC (v := .bool (false)) rfl rfl (sB (cU oM)) (pc0 rfl (mv (K7 (K2 (zJ yB (CallK.of_ret (zFj ⟨qp,qc,rfl,aV,hQ,aH⟩) fun vi w2 G hr => ?_) rfl)))))))))))))));subst hr;rw [zHl,ah];obtain ⟨E0,hQ,I,N,F⟩:=V4 G E0 hQ.ext I.ext N.ext F.ext;refine K2 (zp rfl (pc0 rfl (mv (K2 (zW rfl I fun v27 N27=>K2 (zW rfl N fun v28 N28=>K2 (zLH (p:=r) (q:=om) N27 N28 fun v29 w29 G hY => ?_)))))));obtain ⟨E0,hQ,I,N,F⟩:=V4 G E0 hQ.ext I.ext N.ext F.ext;refine K2 (zJ yB (CallK.of_ret (zFj hY) fun vi w2 G hr => ?_) rfl);subst hr;rw [zKA,cU (fun e:0<r/\0<om=>av e.2)];obtain ⟨E0,hQ,I,N,F⟩:=V4 G E0 hQ.ext I.ext N.ext F.ext;refine K2 (zp rfl (pc0 rfl (rS 4294967409 ?_)));refine wct rfl (rj (K1 (zV (cs := #[.int .i64 0,.slice none 0 0,.slice none 0 0]) kR (K1 (zc zDa rfl F rfl (cw rfl) dE rfl fun w2 H Y => ?_)))));replace E0:=E0.upd H hgb3
   clear F;have F:=Y;refine ag (rM 192 ?_);refine zE (zU (zM ?_));rw [hS];exact .inl ⟨rfl,_,za rfl rfl rfl rfl zCs F rfl,E0,_,rfl,zCM⟩
 . have hS:ladN q r om=ladO (ladE q r om) r:=ct (by rw [ah];simp;exact ⟨fun e=>h0.1 (by rw [e];rfl),h0.2,ax,av⟩);have I:NumAt b1 r _:=⟨_,ai,rfl,aD.ext E0⟩;have N:NumAt b2 om _:=⟨_,Z,rfl,aE.ext E0⟩;have hQ:=aC.ext E0;refine rI (K1 (zG zAC rfl (K1 (zC (v := .bool (false)) rfl rfl (sB (dk.2 oM)) (mv (K7 (K2 (zG zAC rfl (K2 (zC (v := .bool (false)) rfl rfl (sB (cU oM)) (pc0 rfl (mv (K7 (K2 (zJ yB (CallK.of_ret (zFj ⟨qp,qc,rfl,aV,hQ,aH⟩) fun vi w2 G hr => ?_) rfl)))))))))))))));subst hr;rw [zHl,ah];obtain ⟨E0,hQ,I,N,F⟩:=V4 G E0 hQ.ext I.ext N.ext F.ext;refine K2 (zp rfl (pc0 rfl (mv (K2 (zW rfl I fun v27 N27=>K2 (zW rfl N fun v28 N28=>K2 (zLH (p:=r) (q:=om) N27 N28 fun v29 w29 G hY => ?_)))))));obtain ⟨E0,hQ,I,N,F⟩:=V4 G E0 hQ.ext I.ext N.ext F.ext;refine K2 (zJ yB (CallK.of_ret (zFj hY) fun vi w2 G hr => ?_) rfl);subst hr;rw [zKA,cZ (show 0<r/\0<om from ⟨ax,av⟩)];obtain ⟨E0,hQ,I,N,F⟩:=V4 G E0 hQ.ext I.ext N.ext F.ext;refine K2 (zp rfl (pc0 rfl (rS 4294967409 ?_)));refine wcf rfl (sk (zA ?_));have a9:=E0;obtain ⟨w1,bz⟩:=szW E0;have hgb3':=hgb3;subst bz;replace E0:=E0.self';have hP1:=hP.ext a9;have qn:=zOs qr qw
   have bj:om≠0:=gR
   have bk:r≠0:=gR
   have bm:r*om≠0:=by have:=fh ax av;grind
   refine K6 (K1 (j0 E0 yB source_ok fun vs w2 E0 hr => ?_));obtain ⟨bb,ve,rfl,aP,O,U⟩:=hr;refine K1 (zR zero166 fun pb w8 hb G z hs => ?_);have hgpb:w1.heap.size<=pb:=by rw [hb];exact E0.size
   obtain ⟨E0,O,U⟩:=V2 G E0 O.ext U.ext;refine K1 (zR zero3c fun ab w8 hb G t hs => ?_);have hgab:w1.heap.size<=ab:=by rw [hb];exact E0.size
   obtain ⟨E0,O,U,z⟩:=V3 G E0 O.ext U.ext z.ext;refine K1 (zR zero4c fun cb w8 hb G f hs => ?_);have hgcb:w1.heap.size<=cb:=by rw [hb];exact E0.size
   obtain ⟨E0,O,U,z,t⟩:=V4 G E0 O.ext U.ext z.ext t.ext;refine K1 (zc size166 rfl z rfl (cw rfl) dE rfl fun w9 H Y => ?_);replace E0:=E0.upd H hgpb;replace U:=U.upd H z dE;replace O:=O.other H z dE;replace t:=t.other H z dE;replace f:=f.other H z dE;replace Y:Blk w9 pb 166 [.pointer (some ⟨bb,0,none⟩)]:=Y;clear z;have z:=Y;refine K1 (zc size3 rfl t rfl (cw rfl) dE rfl fun w9 H Y => ?_);replace E0:=E0.upd H hgab;replace U:=U.upd H t dE;replace O:=O.other H t dE;replace z:=z.other H t dE;replace f:=f.other H t dE;replace Y:Blk w9 ab 3 [.int .i64 1]:=Y;clear t;have t:=Y;refine K1 (zc zTP rfl f rfl (cw rfl) dE rfl fun w9 H Y => ?_);replace E0:=E0.upd H hgcb;replace U:=U.upd H f dE;replace O:=O.other H f dE;replace z:=z.other H f dE;replace t:=t.other H f dE;replace Y:Blk w9 cb 4 [.bool true]:=Y;clear f;have f:=Y;refine rS 1905 ?_;refine zA (rJ (K1 (zJ yB (CallK.of_ret zJy fun v9 w9 G hr => ?_) rfl)));obtain ⟨bx,rfl,T,ad⟩:=hr;obtain ⟨E0,O,U,z,t,f⟩:=V5 G E0 O.ext U.ext z.ext t.ext f.ext
   refine rM 68719478640 ?_;refine zF ?_;have bA:w1.heap.size<=_:=E0.size;have hI0:NetI w1 bx pb ab cb bb qc qp q r om 0 _:=⟨1,_,[el1],⟨ia _,ia _,rfl,rfl,fun j hj=>(by
    obtain rfl:j=0:=by simpa using hj
    decide)⟩,E0,T,z,t,f,O,U⟩
   refine zLR rfl rfl yB dE (NetI w1 bx pb ab cb bb qc qp q r om) (fun _ _=>True) q.length (encB q)
    (fun i args w1 h=>by obtain ⟨v,e,_⟩:=h;rw [e];rfl)
    (fun w2 G=>hI0.ext G)
    (fun i w2 w3 hI G=>hI.ext G)
    (fun i l w2 w3 hl hI hO=>hI.oth hO oM)
    (fun l J ae bB hy w2 _ h0=>zJG aH l J (fun i w3 hJ=>by obtain ⟨n,ve,es,g0,g1,g2,_⟩:=bB i w3 hJ;exact ⟨g2,hQ.ext g1⟩) hy w2 h0)
    ?_ ?_
   . rintro l i args w2 hl hi ⟨n,ve,es,⟨aW,bC,ay,aq,aX⟩,E0,T,z,t,f,O,U⟩ ⟨c,rfl,ba⟩;refine wpe_k [(4,.pointer (some ⟨b1,0,none⟩)),(5,.pointer (some ⟨b2,0,none⟩)),(8,.pointer (some ⟨pb,0,none⟩)),(9,.pointer (some ⟨ab,0,none⟩)),(10,.pointer (some ⟨cb,0,none⟩)),(38,c)] (kp rfl) ?_;have av:=E0.size;have hwl:=dz bA hl;rw [zRO hi] at aq;obtain ⟨qx,-⟩:=bw _ (oM:q.length-1-i<q.length);have qm:=zOs qx qr;have qa:=zOr bj qm qw;have qd:=zOr bk qx qr;have qb:=zOr bm qx qn;have bD:(q.getD (q.length-1-i) 0)/r/om=(q.getD (q.length-1-i) 0)/(r*om):=by grind
     refine K6 ?_;refine K1 (zR zAt fun xb w7 hb G aw hs => ?_);have hgxb:w1.heap.size<=xb:=by rw [hb];exact av
     have V:=NC.ext G;obtain ⟨E0,ba,T,z,t,f,O,U⟩:=V7 G E0 ba.ext T.ext z.ext t.ext f.ext O.ext U.ext;refine K1 (zO rfl ba (Cell3.of aw rfl) fun _ w9 H ao => ?_);replace V:=V.trans (NC.upd H aw);replace E0:=E0.upd H hgxb;replace T:=T.other H aw dE;replace z:=z.other H aw dE;replace t:=t.other H aw dE;replace f:=f.other H aw dE;replace O:=O.other H aw dE;replace U:=U.upd H aw dE;replace ao:NumAt xb (q.getD (q.length-1-i) 0) _:=ao;refine rl ⟨rfl,rfl,V,fun w5 hO => ?_⟩;replace E0:=E0.oth hO hwl;replace T:=T.oth hO;replace z:=z.oth hO;replace t:=t.oth hO;replace f:=f.oth hO;replace O:=O.oth hO;replace U:=U.le hO.le;replace ao:=ao.le hO.le;clear V;have V:NCx w5 w5:=NC.refl w5;refine zF (zA (zA ?_));rcases fy i with h2 | h2
     . rw [cZ h2,ladEl] at aq;rw [cZ h2] at f;refine K6 (K1 (zD zCo rfl f rfl (rS 549755819824 ?_)));refine wct rfl ?_;have aa:=I.ext E0;have al:=N.ext E0;have aj:=hP1.ext E0;have aI:=U;refine zAR none 12 [[16],[18],[18],[1],[24],[8],[3,1],[10],[3,1],[1],[17,13,1],[1]] mixed kR fun K hK=>du (fun G hk=>zD zJq hk.1 (z.ext G) rfl eR) (du (fun G hk=>zD zAT hk.1 (t.ext G) rfl eR) (du (fun G hk=>zD zAT hk.1 (t.ext G) rfl eR) (du (u := .int .i64 (n+1)) (fun G hk=>zC hk.1 rfl (sI (zm oM oM)) eR) (dc (fun G hk=>zW hk.1 (ao.ext G) fun _=>eX) (dc (fun G hk=>zW hk.1 (aa.ext G) fun _=>eX) (dl (fun G hk=>Mul_ok hk.1 hk.2.1 (zNR qx qr oM)) (dc (fun G hk=>zW hk.1 (al.ext G) fun _=>eX) (dl (fun G hk=>zHv hk.1 hk.2.1 (zNR qm qw oM)) (dL (fun v _=>v=S (textS ((q.getD (q.length-1-i) 0)*r/om))) (fun G hk=>zJc hk.1 (zCS qa oM).1 (zCS qa oM).2 (aj.ext G)) (du (u := .agg (elc ⟨3,n,n+1,0,0,textS ((q.getD (q.length-1-i) 0)*r/om)⟩).toArray) (fun G hk=>zMH rfl hk.1 hk.2.1 hk.2.2.1 eR) ?_))))))))))
       refine dcp (fun v w'=>∃ b,v = .slice (some ⟨b,0,none⟩) 1 1/\Blk w' b 119 ([(⟨3,n,n+1,0,0,textS ((q.getD (q.length-1-i) 0)*r/om)⟩:El)].map elc).flatten/\RowB 119 8 w1.heap.size [b] w' ve (es.map elc)) (fun _ _ _ _ hx h=>(let ⟨b,e,h1,h2⟩:=h;⟨b,e,h1.ext hx.toExt,h2.ext hx.toExt⟩)) (fun σ wx G hk=>zCk (e:=⟨3,n,n+1,0,0,textS ((q.getD (q.length-1-i) 0)*r/om)⟩) hk.1 fun v w2 hX ⟨b,e,hb,O⟩=>⟨hX,b,e,O,((aI.new (dz G.size hb)).ext (G.trans hX))⟩) ?_;refine zAJ (hK _ fun wq G => ?_);rintro _ rfl _ rfl _ rfl v43 N43 v44 N44 v45 N45 v46 N46 v47 N47 v48 N48 v49 N49 v50 N50 v51 N51;refine zY ?_;obtain ⟨E0,T,z,t,f,O,U,ao,V,aa,al,aj⟩:=V11 G E0 T.ext z.ext t.ext f.ext O.ext U.ext ao.ext V.ext aa.ext al.ext aj.ext;obtain ⟨eb,rfl,aJ,aK⟩:=N51;refine K1 (zJ yB (CallK.mono (zIH (w:=w1) (es:=[(⟨3,n,n+1,0,0,textS ((q.getD (q.length-1-i) 0)*r/om)⟩:El)]) (rows:=es) E0 aP O aJ aK (by rw [ay];show _+1<=_;omega)) fun vr w12 ⟨hr,aM,hK,bi,Z,aN⟩ => ?_) rfl);subst hr;rw [tops_one1 aW] at Z ⊢;replace T:=hK.2 _ _ _ dE dE T;replace z:=hK.2 _ _ _ dE dE z;replace f:=hK.2 _ _ _ dE dE f;replace V:=V.tr hK.1;replace t:=hK.2 _ _ _ dE dE t;clear E0 O U
       have E0:=aM;have O:=Z;have U:=aN.sub (y:=[]) sM;refine K1 (zc size3 rfl t rfl (cw rfl) dE rfl fun w9 H Y => ?_);replace V:=V.tr (NC.upd H t);replace E0:=E0.upd H hgab;replace U:=U.upd H t dE;replace O:=O.other H t dE;replace z:=z.other H t dE;replace f:=f.other H t dE;replace T:=T.other H t dE;replace Y:Blk w9 ab 3 [.int .i64 (n+1)]:=Y;clear t;have t:=Y;have fa:=zCS qa oM;have am:=zIf (e:=⟨3,n,n+1,0,0,textS ((q.getD (q.length-1-i) 0)*r/om)⟩) aX (zHC fa.1 fa.2 (by have:=qt_sz qa;omega));obtain ⟨n2,aO⟩:∃ n2,n2=n+1:=⟨_,rfl⟩;obtain ⟨ak,an⟩:∃ ak,ak=es++[(⟨3,n,n+1,0,0,textS ((q.getD (q.length-1-i) 0)*r/om)⟩:El)]:=⟨_,rfl⟩;have aQ:ak.length=1+(i+1):=by rw [an,dN,ay];rfl
       have aR:ladEl r om (q.reverse.drop (i+1)) (decide ((i+1)%2=0)) n2 ak=ladE q r om:=by rw [cU oM,aO,an];exact aq
       rw [<- an] at am U;rw [<- aO] at O t;have bc:1<=n2:=oM
       have bd:n2<=1+((i+1:Nat):Int):=oM
       refine zAh (zK (K5 [10] ?_));refine K6 (K1 (zD zCo rfl f rfl (K1 (zp rfl (K1 (zc zTP rfl f rfl (cw rfl) dE rfl fun w9 H Y => ?_))))));replace V:=V.tr (NC.upd H f);replace E0:=E0.upd H hgcb;replace U:=U.upd H f dE;replace O:=O.other H f dE;replace z:=z.other H f dE;replace t:=t.other H f dE;replace T:=T.other H f dE;replace Y:Blk w9 cb 4 [.bool (decide ((i+1)%2=0))]:=by
        first
        | rw [cU oM];exact Y
        | rw [cZ oM];exact Y
       clear f;have f:=Y;refine rl (zN (⟨rfl,V,fun w8 hO=>⟨NetI.oth (l:=l) ⟨n2,_,ak,⟨bc,bd,aQ,aR,am⟩,E0,T,z,t,f,O,U⟩ hO hwl,trivial⟩⟩))
     . rw [cU oM,ladEl] at aq;rw [cU oM] at f;refine K6 (K1 (zD zCo rfl f rfl (rS 549755819824 ?_)));refine wcf rfl ?_;have aa:=I.ext E0;have al:=N.ext E0;have aj:=hP1.ext E0;have aI:=U;refine zAR none 10 [[16],[18],[24],[8],[3,1],[10],[3,1],[1],[13,1],[1]] mixed kR fun K hK=>du (fun G hk=>zD zJq hk.1 (z.ext G) rfl eR) (du (fun G hk=>zD zAT hk.1 (t.ext G) rfl eR) (dc (fun G hk=>zW hk.1 (ao.ext G) fun _=>eX) (dc (fun G hk=>zW hk.1 (aa.ext G) fun _=>eX) (dl (fun G hk=>zHv hk.1 hk.2.1 (zNR qx qr oM)) (dc (fun G hk=>zW hk.1 (al.ext G) fun _=>eX) ?_)))));refine dC (fun v w'=>IsNum w' v ((q.getD (q.length-1-i) 0)/(r*om))) (fun G hk=>zJ yB (CallK.of_ret (zHv hk.1 hk.2.1 (zNR qd qw oM)) fun v w2 hX hr=>⟨hX,(by rw [<- bD];exact hr)⟩) rfl) ?_;refine dL (fun v _=>v=S (textS ((q.getD (q.length-1-i) 0)/(r*om)))) (fun G hk=>zJc hk.1 (zCS qb oM).1 (zCS qb oM).2 (aj.ext G)) (du (u := .agg (elc ⟨2,n,0,0,0,textS ((q.getD (q.length-1-i) 0)/(r*om))⟩).toArray) (fun G hk=>zIM rfl hk.1 hk.2.1 eR) ?_)
       refine dcp (fun v w'=>∃ b,v = .slice (some ⟨b,0,none⟩) 1 1/\Blk w' b 119 ([(⟨2,n,0,0,0,textS ((q.getD (q.length-1-i) 0)/(r*om))⟩:El)].map elc).flatten/\RowB 119 8 w1.heap.size [b] w' ve (es.map elc)) (fun _ _ _ _ hx h=>(let ⟨b,e,h1,h2⟩:=h;⟨b,e,h1.ext hx.toExt,h2.ext hx.toExt⟩)) (fun σ wx G hk=>zCk (e:=⟨2,n,0,0,0,textS ((q.getD (q.length-1-i) 0)/(r*om))⟩) hk.1 fun v w2 hX ⟨b,e,hb,O⟩=>⟨hX,b,e,O,((aI.new (dz G.size hb)).ext (G.trans hX))⟩) ?_;refine zAJ (hK _ fun wq G => ?_);rintro _ rfl _ rfl v55 N55 v56 N56 v57 N57 v58 N58 v59 N59 v60 N60 v61 N61 v62 N62;refine zY ?_;obtain ⟨E0,T,z,t,f,O,U,ao,V,aa,al,aj⟩:=V11 G E0 T.ext z.ext t.ext f.ext O.ext U.ext ao.ext V.ext aa.ext al.ext aj.ext;obtain ⟨eb,rfl,aJ,aK⟩:=N62;refine K1 (zJ yB (CallK.mono (zIH (w:=w1) (es:=[(⟨2,n,0,0,0,textS ((q.getD (q.length-1-i) 0)/(r*om))⟩:El)]) (rows:=es) E0 aP O aJ aK (by rw [ay];show _+1<=_;omega)) fun vr w12 ⟨hr,aM,hK,bi,Z,aN⟩ => ?_) rfl);subst hr;rw [zPO aW] at Z ⊢;replace T:=hK.2 _ _ _ dE dE T;replace z:=hK.2 _ _ _ dE dE z;replace f:=hK.2 _ _ _ dE dE f;replace V:=V.tr hK.1;replace t:=hK.2 _ _ _ dE dE t;clear E0 O U
       have E0:=aM;have O:=Z;have U:=aN.sub (y:=[]) sM;have fa:=zCS qb oM;have am:=zIf (e:=⟨2,n,0,0,0,textS ((q.getD (q.length-1-i) 0)/(r*om))⟩) aX (zHC fa.1 fa.2 (by have:=qt_sz qb;omega));obtain ⟨n2,aO⟩:∃ n2,n2=n:=⟨_,rfl⟩;obtain ⟨ak,an⟩:∃ ak,ak=es++[(⟨2,n,0,0,0,textS ((q.getD (q.length-1-i) 0)/(r*om))⟩:El)]:=⟨_,rfl⟩;have aQ:ak.length=1+(i+1):=by rw [an,dN,ay];rfl
       have aR:ladEl r om (q.reverse.drop (i+1)) (decide ((i+1)%2=0)) n2 ak=ladE q r om:=by rw [cZ oM,aO,an];exact aq
       rw [<- an] at am U;rw [<- aO] at O t;have bc:1<=n2:=oM
       have bd:n2<=1+((i+1:Nat):Int):=oM
       refine zAh (zK (K5 [10] ?_));refine K6 (K1 (zD zCo rfl f rfl (K1 (zp rfl (K1 (zc zTP rfl f rfl (cw rfl) dE rfl fun w9 H Y => ?_))))));replace V:=V.tr (NC.upd H f);replace E0:=E0.upd H hgcb;replace U:=U.upd H f dE;replace O:=O.other H f dE;replace z:=z.other H f dE;replace t:=t.other H f dE;replace T:=T.other H f dE;replace Y:Blk w9 cb 4 [.bool (decide ((i+1)%2=0))]:=by
        first
        | rw [cU oM];exact Y
        | rw [cZ oM];exact Y
       clear f;have f:=Y;refine rl (zN (⟨rfl,V,fun w8 hO=>⟨NetI.oth (l:=l) ⟨n2,_,ak,⟨bc,bd,aQ,aR,am⟩,E0,T,z,t,f,O,U⟩ hO hwl,trivial⟩⟩))
   . rintro D w2 hD ⟨n,ve,es,⟨aW,bC,ay,aq,aX⟩,E0,T,z,t,f,O,U⟩ bE;have aq:(n,es)=ladE q r om:=by rw [<- aq,eJ sM];cases decide (q.length%2=0)<;>rfl
     have aa:=I.ext E0;have aj:=hP1.ext E0;have aI:=U;have ar:DefAt D _:=bE;refine zN (zK (zA (zAR none 6 [[16],[18],[8],[1],[5,1],[1]] mixed kR fun K hK=>du (fun G hk=>zD zJq hk.1 (z.ext G) rfl eR) (du (fun G hk=>zD zAT hk.1 (t.ext G) rfl eR) (dc (fun G hk=>zW hk.1 (aa.ext G) fun _=>eX) (dL (fun v _=>v=S (textS (r))) (fun G hk=>zJc hk.1 (zCS qr oM).1 (zCS qr oM).2 (aj.ext G)) (du (u := .agg (elc ⟨1,n,0,0,0,textS r⟩).toArray) (fun G hk=>zIM rfl hk.1 hk.2.1 eR) ?_)))))));refine dcp (fun v w'=>∃ b,v = .slice (some ⟨b,0,none⟩) 1 1/\Blk w' b 119 ([(⟨1,n,0,0,0,textS r⟩:El)].map elc).flatten/\RowB 119 8 w1.heap.size [b] w' ve (es.map elc)) (fun _ _ _ _ hx h=>(let ⟨b,e,h1,h2⟩:=h;⟨b,e,h1.ext hx.toExt,h2.ext hx.toExt⟩)) (fun σ wx G hk=>zCk (e:=⟨1,n,0,0,0,textS r⟩) hk.1 fun v w2 hX ⟨b,e,hb,O⟩=>⟨hX,b,e,O,((aI.new (dz G.size hb)).ext (G.trans hX))⟩) ?_;refine zAJ (hK _ fun wq G => ?_);rintro _ rfl _ rfl v68 N68 v69 N69 v70 N70 v71 N71;refine zY ?_;obtain ⟨E0,z,t,O,U,aa,aj,ar⟩:=V7 G E0 z.ext t.ext O.ext U.ext aa.ext aj.ext ar.ext;obtain ⟨eb,rfl,aJ,aK⟩:=N71
     refine K1 (zJ yB (CallK.mono (zIH (w:=w1) (es:=[(⟨1,n,0,0,0,textS r⟩:El)]) (rows:=es) E0 aP O aJ aK (by rw [ay];show _+1<=_;omega)) fun vr w12 ⟨hr,aM,hK,bi,Z,aN⟩ => ?_) rfl);subst hr;rw [zPO aW] at Z ⊢;replace z:=hK.2 _ _ _ dE dE z;replace ar:=ar.nc hK.1;clear E0 O U;have E0:=aM;have O:=Z;have U:=aN.sub (y:=[]) sM;refine zAh (zK (K5 [6,8] ?_));refine rj (K1 (zD zJq rfl z rfl ?_));have fc:=zCS qr oM;have am:=zIf (e:=⟨1,n,0,0,0,textS r⟩) aX (zHC fc.1 fc.2 (by have:=qt_sz qr;omega));obtain ⟨pe,ce,rfl,bF⟩:=U.rd;rw [dJ] at O;refine K1 (zJ yB (CallK.of_ret (done_ok O bF (by rw [dN,ay];show 1+q.length+1<_;omega) am) fun vd w9 G hr => ?_) rfl);obtain ⟨vn,rfl,bo⟩:=hr;replace ar:=ar.ext G;replace F:=(F.ext E0).ext G;replace E0:=(a9.trans E0).trans G;refine xt rfl (xt rfl ?_);obtain ⟨pn,cn,rfl,bG⟩:=bo;refine K1 (zc zDa rfl F rfl (cw rfl) dE rfl fun w2 H Y => ?_);replace ar:=ar.nc (NC.upd H F);have bp:=bG.upd H F dE;replace E0:=E0.upd H hgb3';clear F;have F:=Y;refine ag (rM 192 ?_);refine zE (zM ?_);rw [hS,<- aq]
     exact .inr ⟨D,_,rfl,ar,fun w2 hO=>⟨za rfl rfl rfl rfl zCs (F.oth hO) rfl,E0.oth hO (by have:=a9.size;omega),_,rfl,pn,cn,rfl,bp.oth hO⟩⟩
variable {P:Program} {o:Nat}
def zOJ (P:Program) (t:TypeId):Nat:=match P.underlying t with
 | some (.int _)=>1
 | some .string=>2
 | _=>0
def zPh (P:Program) (f:Field):Bool:=f.name != "_" && ((f.offset<7&&zOJ P f.type==1) || (f.offset==7&&zOJ P f.type==2))
theorem eq119:((prog.fieldsOf 119).toList.all (zPh prog))=true:=kR
theorem und119:prog.underlying 119=some (.struct (prog.fieldsOf 119)):=kR
theorem stood119:prog.stoodInHeld 119=false:=kR
theorem guard119:prog.eqGuardType prog.depth 119=false:=kR
theorem zOx {t:TypeId} {cs:Array Value} {d:TypeDesc} (h:P.underlying t=some d) (e:(match d with | .struct _ | .array _ _=>true | _=>false)=false) (f:cs[o]? = some v):(part t cs o).run P w = .ok v w:=by
 simp [part,run_isAgg_plain h e,f]
theorem zSX {t:TypeId}:(zOJ P t=1->∃ k,P.underlying t=some (.int k))/\(zOJ P t=2->P.underlying t=some .string):=by
 unfold zOJ;split
 . rename_i k h;exact ⟨fun _=>⟨k,h⟩,fun e=>absurd e dE⟩
 . rename_i h;exact ⟨fun e=>absurd e dE,fun _=>h⟩
 . exact ⟨fun e=>absurd e dE,fun e=>absurd e dE⟩
theorem elc_int (e:El) (h:o<7):∃ z,(elc e).toArray[o]? = some (.int .i64 z):=by
 match o,h with
 | 0,_=>exact ⟨_,rfl⟩
 | 1,_=>exact ⟨_,rfl⟩
 | 2,_=>exact ⟨_,rfl⟩
 | 3,_=>exact ⟨_,rfl⟩
 | 4,_=>exact ⟨_,rfl⟩
 | 5,_=>exact ⟨_,rfl⟩
 | 6,_=>exact ⟨_,rfl⟩
theorem zFc {P:Program} {w:World} {d:Nat} (e:El):∀ t:List Field,t.all (zPh P)=true->(Op.eqFields (d+1) (elc e).toArray (elc e).toArray t).run P w = .ok true w
 | [],_=>by simp [Op.eqFields]
 | f :: t,h=>by
  rw [List.all_cons,ee] at h;have G:=zFc (P:=P) (w:=w) (d:=d) e t h.2;have hf:=h.1;simp only [zPh,ee,fO,iw,eA,ge] at hf;obtain ⟨H,I⟩:=hf;have hstep:∃ v,(part f.type (elc e).toArray f.offset).run P w = .ok v w/\(Op.equalIn (d+1) f.type v v).run P w = .ok true w:=by
   rcases I with ⟨D,F⟩ | ⟨D,F⟩
   . obtain ⟨k,j⟩:=zSX.1 F;obtain ⟨z,J⟩:=elc_int e D;exact ⟨_,zOx j rfl J,by rw [run_equalIn_int _ _ _ _ _ _ _ j];simp⟩
   . have j:=zSX.2 F;exact ⟨S e.v,zOx j rfl (by rw [D];rfl),by rw [S,run_equalIn_string _ _ _ _ _ j];simp⟩
  obtain ⟨v,N,O⟩:=hstep;simp [Op.eqFields,H,N,O,G]
theorem runs_neqE {x y:Operand} {e:El} {d:Option Tmp} (f:σ x = .agg (elc e).toArray) (h:σ y = .agg (elc e).toArray) (j:K (.bool false) w):Runs prog r ⟨d,.binOp .neq 119 x y 119,ty,pos,af,g⟩ σ w K:=by
 refine zy (fun _ e=>by cases e) ?_ j;simp only [execOp,f,h];simp [run_eqGuard_agg _ _ _ _ _ _ _ guard119,run_neq_struct,run_equalIn_struct _ _ _ _ _ und119 stood119,zFc e _ eq119]
theorem zPs:Plain prog 80:=pU
theorem zQC:zBH prog 80 176 5:=pU
theorem SameNet_ok {v1 v2:Value} {n:Int} (H:NetIs w v1 n es) (I:NetIs w v2 n es) (hl:es.length<100000):Ret prog 42 #[v1,v2] w (fun r _=>r = .bool true):=by
 obtain ⟨p,c,rfl,J⟩:=H;obtain ⟨p2,c2,rfl,N⟩:=I;have E0:Ext w w:=Ext.refl w;refine J0 67 func42 rfl (rj ?_);refine K1 (zn fun t w1 hb hE e hs => ?_);have hgb1:w.heap.size<=t:=by rw [hb];exact E0.size
 replace E0:=E0.trans hE;clear hE hs hb;refine K1 (zn fun z w2 hb hE f hs => ?_);have hgb2:w.heap.size<=z:=by rw [hb];exact E0.size
 have D:t≠z:=by have:=e.lt;omega
 replace E0:=E0.trans hE;replace e:=e.ext hE;clear hE hs hb;refine ag (rM 28 ?_);refine zA (rj (K1 (zB zGO rfl (K1 (zD zAT rfl e rfl (K1 (zB zGO rfl (K1 (zD zAT rfl f rfl (K1 (zC (v := .bool (false)) rfl rfl (sB sM) (mv (K2 (zB zEL rfl (K2 (zD zEG rfl e rfl (K2 (zG zEm rfl (K2 (zB zEL rfl (K2 (zD zEG rfl f rfl (K2 (zG zEm rfl (K2 (zC (v := .bool (false)) rfl rfl (sB sM) ?_))))))))))))))))))))))))));refine pc0 rfl (mv (K2 (zB zSh rfl (K2 (zD zPs rfl e rfl (K2 (zG zQC rfl (K2 (zB zSh rfl (K2 (zD zPs rfl f rfl (K2 (zG zQC rfl (K2 (zC (v := .bool (false)) rfl rfl (sB sM) (pc0 rfl (rm [2,3,4,29] ?_)))))))))))))))));refine wcf rfl (sk (zA (rj (ag (rM 60 ?_)))));refine zF (zX (X:=Nat) (fun i F w'=>Keep F [(2,.pointer (some ⟨t,0,none⟩)),(3,.pointer (some ⟨z,0,none⟩)),(4,.bool false),(5,.int .i64 ((i:Nat):Int))]/\i<=es.length/\Ext w w'/\Blk w' t 82 [.int .i64 n,.slice p es.length c,.slice none 0 0]/\Blk w' z 82 [.int .i64 n,.slice p2 es.length c2,.slice none 0 0]) (fun i=>es.length-i) 0 ⟨(kp rfl),di _,E0,e,f⟩ ?_);clear E0 e f;rintro i ρ1 w3 ⟨h,ai,E0,e,f⟩;refine wpe_k _ h ?_;clear h ρ1
 refine zA (rJ (K1 (zB zEL rfl (K1 (zD zEG rfl e rfl (K1 (zG zEm rfl (K8 rfl (rm [2,3,4,5,34] ?_)))))))));refine K0 rfl ?_ ?_<;>intro G
 . have j:i<es.length:=t_lt G;clear G;obtain ⟨e1,x1,rfl,O,T,U⟩:=row_e (J.ext E0) j;obtain ⟨e2,x2,rfl,V,Y,Z⟩:=row_e (N.ext E0) j;refine sk (zA (zF (zA (zAe [[4],[1],[10],[3,1],[1],[6],[1],[10],[3,1],[1],[11,1]] mixed kR fun K hK=>du (fun hE h=>zB zEL h.1 eR) (du (fun hE h=>zD zEG h.1 (e.ext hE) rfl eR) (dM aL (du (fun hE h=>zDW zEm h.1 h.2.1 j eR) (du (u := .agg (elc (es.getD i el0)).toArray) (fun hE h=>zJU (row:=elc (es.getD i el0)) zMg h.1 (O.ext hE) T U eR) (du (fun hE h=>zB zEL h.1 eR) (du (fun hE h=>zD zEG h.1 (f.ext hE) rfl eR) (dM aL (du (fun hE h=>zDW zEm h.1 h.2.1 j eR) ?_))))))))))));refine du (u := .agg (elc (es.getD i el0)).toArray) (fun hE h=>zJU (row:=elc (es.getD i el0)) zMg h.1 (V.ext hE) Y Z eR) (du (u := .bool false) (fun hE h=>runs_neqE h.1 h.2.1 eR) (zAJ (hK _ fun wq hE => ?_)));rintro _ rfl _ rfl _ rfl v40 N40 v41 N41 _ rfl _ rfl _ rfl v45 N45 v46 N46 v47 N47;refine zY ?_;replace E0:=E0.trans hE;replace e:=e.ext hE;replace f:=f.ext hE;clear hE;subst N47;clear N40 N41 N45 N46;refine zK (K5 [2,3,4,5,47] ?_);exact wcf rfl (zw (zN (zK (rI (K8 rfl (ag (rl (zL (⟨rfl,i+1,⟨kw,oM,E0,e,f⟩,oM⟩)))))))))
 . clear G;refine zT (zt (zf (zI (zK (zA (rj (ag (rM 124 ?_))))))));refine zF (zX (X:=Nat) (fun i F w'=>Keep F [(2,.pointer (some ⟨t,0,none⟩)),(3,.pointer (some ⟨z,0,none⟩)),(4,.bool false),(6,.int .i64 0)]/\i=0/\Ext w w'/\Blk w' t 82 [.int .i64 n,.slice p es.length c,.slice none 0 0]/\Blk w' z 82 [.int .i64 n,.slice p2 es.length c2,.slice none 0 0]) (fun i=>0-i) 0 ⟨(kp rfl),rfl,E0,e,f⟩ ?_);clear E0 e f;rintro i ρ1 w3 ⟨h,-,E0,e,f⟩;refine wpe_k _ h ?_;clear h ρ1;refine zA (rJ (K1 (zB zSh rfl (K1 (zD zPs rfl e rfl (K1 (zG zQC rfl (K1 (zC (v := .bool (false)) rfl rfl (sB (cU oM)) (rm [2,3,4,6,52] ?_))))))))));refine wcf rfl (zT (zt (zf (zI (zK (rj (ag (rM 92 ?_))))))));exact zE (en rfl E0 rfl)
end Go.Proofs.YtjiendlfobjanaaGreatDoor
namespace Go.Proofs.YtjiendlfobjanaaGreatDoor.R
variable {L:List Poly} {Q d2 p q s:Poly} {a b:Nat} {x y:Rat}
theorem zNx (P Q:Poly) (k:Nat):co (zFQ P Q) k=if k<P.length-1 then co P k-(if P.length-Q.length<=k/\k<P.length-Q.length+(Q.length-1) then top P/top Q*co Q (k-(P.length-Q.length)) else 0) else 0:=by
 unfold zFQ dvRow;rw [zAU,zDM]
theorem dvStep_tie {P:Poly} {c:Rat} (t:Trimd Q) (f:Q≠[]) (z:Q.length<=P.length) (D:rdiv (top P) (top Q)=some c) (F:zHJ c Q (P.length-Q.length) P=some s):zFQ P Q=trim s:=by
 obtain ⟨G,N,H,I⟩:=zFY t f z D F;refine zBW (ze _) H fun k => ?_;rw [zNx,G,I];have:=zz f;by_cases e:k<P.length-1
 . rw [cD e];by_cases j:P.length-Q.length<=k
   . rw [cD ⟨j,oM⟩,cD j]
   . rw [ct (fun h=>j h.1),ct j]
 . rw [ct e];by_cases J:k=P.length-1
   . subst J;rw [cD oM,show P.length-1-(P.length-Q.length)=Q.length-1 by omega,<- zBM,<- zBM];have:=zEM t f;grind
   . rw [co_ge (l:=P) oM,cD oM,co_ge (l:=Q) oM];grind
theorem zSR {Q:Poly} (z:Trimd Q) (t:Q≠[]):∀ {f:Nat} {j quo O A r:Poly},divL Q f j quo=some (A,r)->Trimd j->j.length<quo.length+Q.length->j.length<=O.length->(∀ k,co O k=co quo k) ->
 (dvF f j Q O).2=r/\∀ k,co (dvF f j Q O).1 k=co A k
 | 0,_,_,_,_,_,h,_,_,_,_=>by cases h
 | f+1,j,quo,O,A,r,h,J,N,T,D=>by
  unfold divL at h;unfold dvF;split at h
  . next e=>cases h;rw [cD e];exact ⟨rfl,fun k=>by rw [zAU];exact D k⟩
  . next e =>
    obtain ⟨c,F,h⟩:=cbind h;obtain ⟨s,G,h⟩:=cbind h;obtain ⟨U,V,H,I⟩:=zFY z t oM F G;have:=zz t;rw [ct e,dvStep_tie z t oM F G];refine zSR z t h H (by rw [ff];omega) (by rw [ff];omega) fun k => ?_;rw [zDN oM,zDN oM,D,I]
theorem zId {S:Poly×Poly} (h:pdiv p q=some S):(dvR p q).2=S.2/\trim (dvR p q).1=S.1:=by
 have f:=zBj h;unfold pdiv at h;split at h
 . cases h
 . next e =>
   have:=zz e;have:=zSR (O:=List.replicate (trim p).length 0) (A:=S.1) (r:=S.2) (ze q) e h (ze p) (by rw [fF];omega) (by rw [fF];exact cX _) fun k=>by rw [zBG,zBG]
   exact ⟨this.1,zBW (ze _) f.2.2.2 fun k=>by rw [zAU];exact this.2 k⟩
theorem zTJ {c:Rat} (h:zDg p c=some s):trim (p.map (· * c))=s:=zBW (ze _) (zBD h).1 fun k=>by rw [zAU,zBf,(zBD h).2]
theorem zGq (h:monic p=some s):monR p=s:=by
 unfold monic at h;unfold monR;split at h
 . next e=>cases h;rw [cD e]
 . next e =>
   obtain ⟨c,f,h⟩:=cbind h;rw [ct e,<- zFD f];exact zTJ h
theorem zHA (h:zCU p=some s):shrR p=s:=by
 unfold zCU at h;unfold shrR;split at h
 . next e=>cases h;rw [cD e]
 . next e =>
   obtain ⟨c,f,h⟩:=cbind h;rw [ct e,show absR (top (trim p))=rabs (top (trim p)) from rfl,<- zFD f];exact zTJ h
theorem zQz (h:zDg p (-1)=some s):negR p=s:=zTJ h
theorem zEt (h:zCN p=some s):derR p=s:=zBW (derR_trimd p) (zBC h).1 fun k=>by rw [zIb,(zBC h).2]
theorem zSn:∀ {f:Nat} {p q g:Poly},zBT f p q=some g->gcF f p q=g
 | 0,_,_,_,h=>by cases h
 | f+1,p,q,g,h=>by
  unfold zBT at h;unfold gcF;split at h
  . next e=>cases h;rw [cD e]
  . next e =>
    obtain ⟨S,j,h⟩:=cbind h;obtain ⟨m,t,h⟩:=cbind h;rw [ct e,(zId j).1,zGq t];exact zSn h
theorem zKZ {g:Poly} (h:zBt p q=some g):gcR p q=g:=by
 obtain ⟨P,e,h⟩:=cbind h;obtain ⟨Q,f,h⟩:=cbind h;unfold gcR;rw [zGq e,zGq f];exact zSn h
theorem zSA:∀ {f:Nat} {P Q:Poly} {L:List Poly},zBe (f+1) P Q=some L->P≠[]->L=P :: chF f P Q
 | f,P,Q,L,h,t=>by
  unfold zBe at h;rw [ct t] at h;split at h
  . next e =>
    cases h;subst e;cases f with
    | zero=>rfl
    | succ f=>unfold chF;rw [cD rfl]
  . next e =>
    obtain ⟨S,z,h⟩:=cbind h;obtain ⟨s,D,h⟩:=cbind h;obtain ⟨m,F,h⟩:=cbind h;obtain ⟨l,j,h⟩:=cbind h;cases h;cases f with
    | zero=>cases j
    | succ f =>
     rw [chF,ct e,(zId z).1,zQz D,zHA F,<- zSA j e]
theorem zPa (h:chain p q=some L) (t:trim p≠[]):chR p q=L:=by
 obtain ⟨P,j,h⟩:=cbind h;obtain ⟨Q,z,h⟩:=cbind h;have hP0:P≠[]:=fun e=>t (zAd (by rw [<- (zAj j).2.1,e];rfl));unfold chR;rw [zHA j,zHA z];exact (zSA (f:=Q.length+1) h hP0).symm
theorem zRb {g d k:Poly} (e:zCN g=some d) (f:zBt g d=some k) (h:zCO g k=some s):simR g=s:=by
 unfold simR;rw [zEt e,zKZ f];obtain ⟨S,j,rfl⟩:=cmap h;exact (zId j).2
theorem stuR_tie {g d k:Poly} (f:zCN g=some d) (h:zBt g d=some k) (j:zCO g k=some s) (t:zCN s=some d2) (z:chain s d2=some L) (D:Trimd s) (e:s≠[]):stuR g=L:=by
 unfold stuR;rw [zRb f h j,zEt t];exact zPa z (by rw [zo D];exact e)
theorem zBJ (e:sz x<=a) (f:sz y<=b) (h:a+b<900000000000):Room x y:=by
 unfold Room;omega
theorem zTm {Q:Poly} {b:Nat} {E:Int} (H:Trimd Q) (e:Q≠[]) (t:CHD b E Q):∀ {f:Nat} {P:Poly} {a:Nat} {D:Int},CHD a D P->Trimd P->4*(a+(P.length+1-Q.length)*b)<900000000000->zJC f P Q
 | 0,_,_,_,_,_,_=>trivial
 | f+1,P,a,D,F,Y,Z=>by
  unfold zJC;intro hl;have hqn:=zz e;obtain ⟨w,hw,hw0,hw2,d1,d2,⟨z,G,J⟩,d3⟩:=zJh (m:=P.length-1) (n:=Q.length-1) F t (zBn H e);have hs:a+b<=a+(P.length+1-Q.length)*b:=by
   have:1*b<=(P.length+1-Q.length)*b:=dx b oM;omega
  have h:∀ j,sz (co P (P.length-1)/co Q (Q.length-1)*co Q j)<=2*(a+b):=fun j=>by
   obtain ⟨z,G,J⟩:=d3 j;exact sz_of d2 G oM oM
  have N:sz (co P (P.length-1)/co Q (Q.length-1))<=2*(a+b):=sz_of d2 G oM oM;rw [zBM,zBM];have hstep:∀ k,co (zFQ P Q) k=if k<P.length-1 then co P k-(if P.length-Q.length<=k/\k<P.length-Q.length+(Q.length-1) then co P (P.length-1)/co Q (Q.length-1)*co Q (k-(P.length-Q.length)) else 0) else 0:=zNx P Q
  refine ⟨zBJ (F.sz _) (t.sz _) oM,fun i hi=>⟨zBJ N (t.sz i) oM,zBJ (F.sz _) (h i) oM⟩,?_⟩;have hlen:=zIe P Q;have n1:CHD (a+b) (D*w) (zFQ P Q):=⟨d2,oM,fun k=>by
   rw [hstep];obtain ⟨y,I,O⟩:=F.2.2 k;have h4:=zCg O hw2;rw [<- ey] at h4;split
   . split
     . obtain ⟨x,T,x2⟩:=d3 (k-(P.length-Q.length));refine ⟨y*w-x,?_,oM⟩;rw [Rat.intCast_sub,<- T,dH y w,<- I,dH];grind
     . refine ⟨y*w,?_,oM⟩;rw [dH,dH,<- I];grind
   . exact ⟨0,by rw [dO];rfl,di _⟩⟩
  have V:a+b+((zFQ P Q).length+1-Q.length)*b<=a+(P.length+1-Q.length)*b:=by
   have U:((zFQ P Q).length+1-Q.length+1)*b<=(P.length+1-Q.length)*b:=dx b oM;rw [eF,eG] at U;omega
  exact zTm H e t n1 (ze _) oM
theorem zDk (j:Trimd p) (t:Trimd q) (e:q≠[]) (f:CH a p) (h:CH b q) (z:4*(a+(p.length+1-q.length)*b)<900000000000):zFg p q:=by
 obtain ⟨D,f⟩:=f;obtain ⟨E,h⟩:=h;unfold zFg;rw [zo j,zo t];exact ⟨e,zTm t e h f j z⟩
theorem zKE (p:Poly) (i:Nat):p.getD i 0=co p i:=rfl
theorem zFV (e:Trimd p) (h:CH a p) (G:4*a<900000000000):zFh p:=by
 intro f;rw [zo e] at f ⊢;obtain ⟨D,h⟩:=h;obtain ⟨z,t,F⟩:=h.2.2 (p.length-1);have j:=zLN (zBn e f) h.1 t F h.2.1;rw [<- zBM] at j;refine ⟨zBJ (dS zMS) (h.sz (p.length-1)) oM,fun i=>zBJ (h.sz i) j oM⟩
theorem zIy (f:Trimd p) (h:CH a p) (I:4*a<900000000000):zMb p:=by
 intro j;rw [zo f] at j ⊢;obtain ⟨D,h⟩:=h;have H:=zBn f j;have t:sz (absR (top p))<=2*a/\sz (1/absR (top p))<=2*a:=by
  have e:absR (top p)=co p (p.length-1)\/absR (top p) = - co p (p.length-1):=by unfold absR;rw [zBM];split<;>simp
  obtain ⟨z,F,G⟩:=h.2.2 (p.length-1);rcases e with e | e
  . rw [e];exact ⟨h.sz _,zLN H h.1 F G h.2.1⟩
  . rw [e,zJX];refine ⟨h.sz _,zLN (z := -z) gR h.1 (by rw [fQ,<- F];grind) (by rw [fx];exact G) h.2.1⟩
 exact ⟨zBJ (dS zMS) t.1 oM,fun i=>zBJ (h.sz i) t.2 oM⟩
theorem zGg (h:CH a p) (t:p.length<=64) (z:4*a<900000000000):zIW p:=fun i D=>by
 have e:sz ((i+1:Nat):Rat)<=10:=by
  unfold sz;have f:((i+1:Nat):Rat).num.natAbs=i+1:=by rw [Rat.num_natCast];rfl
  have j:((i+1:Nat):Rat).den=1:=Rat.den_natCast (i+1);rw [f,j];have:=zFU (oM:i+1<2^10);have:Nat.log2 1=0:=dE
  omega
 exact zBJ (h.sz (i+1)) e oM
theorem zOT {z D:Poly} {a B:Nat} (N:eB a<=B) (hM:300*B<900000000000) (O:CH a z) (T:CH a D) (U:z.length<=64) (V:D.length<=64):∀ {f:Nat} {p q g:Poly},zBT f p q=some g->Trimd p->Trimd q->p.length<=64->q.length<=64->CH B p->CH B q ->
 ((p=z/\q=D)\/Euc z D p q)->zLU f p q
 | 0,_,_,_,_,_,_,_,_,_,_,_=>trivial
 | f+1,p,q,g,h,Y,F,lp,lq,Z,H,he=>by
  unfold zLU;intro e;unfold zBT at h;rw [ct e] at h;obtain ⟨S,G,h⟩:=cbind h;obtain ⟨m,I,h⟩:=cbind h;have h65:=dx B (oM:p.length+1-q.length<=65);obtain ⟨S',r1,_,r3⟩:=zKt Y F e Z H oM;rw [G] at r1;cases r1;have j:=zBj G;rw [zo F] at j;obtain ⟨J,m4,t,ht,m5⟩:=zBN I;rw [zo j.2.2.1] at m4;have hR:=zRN G F e ht J m5;have hE:Euc z D q m:=he.elim (fun h=>by rw [<- h.1,<- h.2];exact .one hR) fun h=>h.snoc hR;have cm:=(zMv hE J (zIA I).un O T U V).le N;rw [(zId G).1,zGq I];have hd:=zDk Y F e Z H oM;exact ⟨hd.2,zFV j.2.2.1 r3 oM,zOT N hM O T U V h F J lq oM H cm (.inr hE)⟩
theorem zGk (f:Trimd p) (h:Trimd q) (J:p.length<=64) (N:q.length<=64) (j:CH a p) (t:CH a q) (O:300*eB a<900000000000):zHM p q:=by
 have F:a<=eB a:=by unfold eB;omega
 obtain ⟨g,e,_⟩:=zFL f h J N j t oM;obtain ⟨P,z,e⟩:=cbind e;obtain ⟨Q,D,e⟩:=cbind e;obtain ⟨Z,G,H⟩:=zHz f j oM;obtain ⟨Q',q1,I⟩:=zHz h t oM;rw [z] at G;cases G;rw [D] at q1;cases q1;obtain ⟨T,U,_⟩:=zBN z;obtain ⟨V,Y,_⟩:=zBN D;rw [zo f] at U;rw [zo h] at Y;refine ⟨zFV f j oM,zFV h t oM,?_⟩;rw [zGq z,zGq D];exact zOT (cX _) O H I oM oM e T V oM oM (H.le F) (I.le F) (.inl ⟨rfl,rfl⟩)
theorem zNv {j z:Poly} {a B:Nat} (T:eB a<=B) (hM:300*B<900000000000) (U:CH a j) (V:CH a z) (Y:j.length<=64) (Z:z.length<=64):∀ {f:Nat} {p q:Poly} {L:List Poly},zBe (f+1) p q=some L->p≠[]->Trimd p->Trimd q->p.length<=64->q.length<=64->CH B p->CH B q ->
 ((p=j/\q=z)\/Euc j z p q)->zNl f p q
 | 0,_,_,_,_,_,_,_,_,_,_,_,_=>trivial
 | f+1,p,q,L,h,O,hp,D,lp,lq,cp,H,he=>by
  unfold zNl;intro e;unfold zBe at h;rw [ct O,ct e] at h;obtain ⟨S,F,h⟩:=cbind h;obtain ⟨s,G,h⟩:=cbind h;obtain ⟨m,I,h⟩:=cbind h;obtain ⟨l,hl,h⟩:=cbind h;have h65:=dx B (oM:p.length+1-q.length<=65);obtain ⟨S',r1,_,r3⟩:=zKt hp D e cp H oM;rw [F] at r1;cases r1;have hrem:=zBj F;rw [zo D] at hrem;obtain ⟨s',s1,s2⟩:=zIG r3 oM;rw [G] at s1;cases s1;have J:=zBD G;have s3:=zEY G hrem.2.2.1 dE;obtain ⟨N,m4,t,ht,m5⟩:=zAj I;rw [zo J.1] at m4;have hR:=zRN F D e (t := -t) gR N fun k=>by rw [m5,J.2];grind
  have hE:Euc j z q m:=he.elim (fun h=>by rw [<- h.1,<- h.2];exact .one hR) fun h=>h.snoc hR;have cm:=(zMv hE N (zDz I) U V Y Z).le T;rw [(zId F).1,zQz G,zHA I];have hd:=zDk hp D e cp H oM;have e1:sz (-1)=0:=dE
  exact ⟨hd.2,fun i=>zBJ (r3.sz i) (dS e1) oM,zIy J.1 s2 oM,zNv T hM U V Y Z hl e D N lq oM H cm (.inr hE)⟩
theorem zGG (h:Trimd p) (G:p≠[]) (j:Trimd q) (T:p.length<=64) (U:q.length<=64) (t:CH a p) (z:CH a q) (V:300*eB a<900000000000):zFI p q:=by
 have H:a<=eB a:=by unfold eB;omega
 obtain ⟨L,f,_⟩:=zHp h j T U t z oM;obtain ⟨P,D,f⟩:=cbind f;obtain ⟨Q,F,f⟩:=cbind f;obtain ⟨P',I,J⟩:=zFa h t oM;obtain ⟨Q',q1,N⟩:=zFa j z oM;rw [D] at I;cases I;rw [F] at q1;cases q1;obtain ⟨Y,O,_⟩:=zAj D;obtain ⟨Z,q4,_⟩:=zAj F;rw [zo h] at O;rw [zo j] at q4;refine ⟨zIy h t oM,zIy j z oM,?_⟩;rw [zHA D,zHA F];exact zNv (cX _) V J N oM oM f (fun e=>G (zAd (by rw [<- O,e];rfl))) Y Z oM oM (J.le H) (N.le H) (.inl ⟨rfl,rfl⟩)
end Go.Proofs.YtjiendlfobjanaaGreatDoor.R
namespace Go.Proofs.YtjiendlfobjanaaGreatDoor
open Go Go.RowKit Go.Proofs Tryz
variable {x:Rat}
theorem zSI (p q:Poly) (k:Nat):co (trim (R.mulR p q)) k=if k<p.length+q.length then R.rowsR p q p.length k else 0:=by
 rw [zAU];unfold co R.mulR;by_cases e:k<p.length+q.length
 . rw [cD e];simp [e]
 . rw [ct e,cC,ez (by simp;omega)];rfl
theorem zMo (p q:Poly) (k:Nat):co (trim (R.addR p q)) k=co p k+co q k:=by
 rw [zAU];by_cases e:k<max p.length q.length
 . unfold co R.addR;simp [e]
 . rw [co_ge (by simp [R.addR];omega),co_ge oM,co_ge oM,eD]
theorem fine_of (h:sz x<1000000000):Fine x.num.natAbs/\Fine x.den:=by
 unfold sz at h;unfold Fine;omega
end Go.Proofs.YtjiendlfobjanaaGreatDoor
namespace Go.Proofs.YtjiendlfobjanaaGreatDoor
set_option maxRecDepth 10000
open Go Go.RowKit Go.Proofs Tryz
theorem rows_a (p:Poly) (c:Rat) (k:Nat):∀ n,R.rowsR p [c,0,1] n k=(if k<n then co p k*c else 0)+(if 2<=k/\k<n+2 then co p (k-2) else 0)
 | 0=>by rw [R.rowsR,ct (oM:¬ k<0),ct (oM:¬ (2<=k/\k<0+2)),eD]
 | n+1=>by
  rw [R.rowsR,rows_a p c k n];rcases (oM:k<n\/k=n\/k=n+1\/k=n+2\/n+2<k) with h | rfl | rfl | rfl | h
  . rw [ct (oM:¬ n<=k),cD h,cD (oM:k<n+1),eD];congr 1;by_cases e:2<=k
    . rw [cD (oM:2<=k/\k<n+2),cD (oM:2<=k/\k<n+1+2)]
    . rw [ct (oM:¬ (2<=k/\k<n+2)),ct (oM:¬ (2<=k/\k<n+1+2))]
  . rw [cD (cX k),ct (Nat.lt_irrefl k),cD (gv k),fM,gs,Rat.add_comm];show co p k*c+_=_;congr 1;by_cases e:2<=k
    . rw [cD (oM:2<=k/\k<k+2),cD (oM:2<=k/\k<k+1+2)]
    . rw [ct (oM:¬ (2<=k/\k<k+2)),ct (oM:¬ (2<=k/\k<k+1+2))]
  . rw [cD (oM:n<=n+1),ct (oM:¬ n+1<n),ct (oM:¬ n+1<n+1),show n+1-n=1 by omega];show _+_+p.getD n 0*0=_;rw [ed,eD];congr 1;by_cases e:2<=n+1
    . rw [cD (oM:2<=n+1/\n+1<n+2),cD (oM:2<=n+1/\n+1<n+1+2)]
    . rw [ct (oM:¬ (2<=n+1/\n+1<n+2)),ct (oM:¬ (2<=n+1/\n+1<n+1+2))]
  . rw [cD (oM:n<=n+2),ct (oM:¬ n+2<n),ct (oM:¬ (2<=n+2/\n+2<n+2)),ct (oM:¬ n+2<n+1),cD (oM:2<=n+2/\n+2<n+1+2),show n+2-n=2 by omega,show n+2-2=n by omega];show _+_+p.getD n 0*1=0+p.getD n 0;rw [iE,eD]
  . rw [cD (oM:n<=k),ct (oM:¬ k<n),ct (oM:¬ (2<=k/\k<n+2)),ct (oM:¬ k<n+1),ct (oM:¬ (2<=k/\k<n+1+2))];rw [show ([c,0,1]:Poly).getD (k-n) 0=0 by rw [cC,ez (by simp;omega)];rfl,ed,eD]
theorem zTI (p q:Poly) (m:Nat) (f:Rat) (t:∀ j,co q j=if j=m then f else 0) (k:Nat):∀ n,R.rowsR p q n k=if m<=k/\k-m<n then co p (k-m)*f else 0
 | 0=>by rw [R.rowsR,ct (oM:¬ (m<=k/\k-m<0))]
 | n+1=>by
  rw [R.rowsR,zTI p q m f t k n];have h:q.getD (k-n) 0=if k-n=m then f else 0:=t (k-n)
  rw [h];by_cases z:m<=k/\k-m<n
  . rw [cD z,cD (oM:m<=k/\k-m<n+1)];by_cases e:n<=k
    . rw [cD e,ct (oM:¬ k-n=m),ed,eD]
    . rw [ct e,eD]
  . rw [ct z,gs];by_cases e:n<=k
    . rw [cD e];by_cases D:k-n=m
      . rw [cD D,cD (oM:m<=k/\k-m<n+1),show k-m=n by omega];rfl
      . rw [ct D,ed,ct (oM:¬ (m<=k/\k-m<n+1))]
    . rw [ct e,ct (oM:¬ (m<=k/\k-m<n+1))]
theorem zQY (p q:Poly) (m:Nat) (t:Rat) (D:∀ j,co q j=if j=m then t else 0) (k:Nat):co (trim (R.mulR p q)) k=if m<=k then co p (k-m)*t else 0:=by
 rw [zSI,zTI p q m t D];by_cases f:t=0
 . rw [f];simp
 . have G:m<q.length:=by
    rcases dR m q.length with h | h
    . exact h
    . have:=D m;rw [co_ge h,cD rfl] at this;exact absurd this.symm f
   by_cases z:m<=k
   . rw [cD (show m<=k from z)];by_cases F:k-m<p.length
     . rw [cD (oM:k<p.length+q.length),cD (show m<=k/\k-m<p.length from ⟨z,F⟩)]
     . rw [show co p (k-m)=0 from co_ge oM,dO];simp
   . rw [ct (show ¬ m<=k from z),ct (show ¬ (m<=k/\k-m<p.length) from fun e=>z e.1)];simp
variable {p:Poly}
def FineP (p:Poly):Prop:=∀ i,i<p.length->Fine (p.getD i 0).num.natAbs/\Fine (p.getD i 0).den
theorem FineP.of_mem (h:∀ x,x∈p->sz x<1000000000):FineP p:=fun i hi=>by
 refine fine_of ?_;rw [cC,cY hi];exact h _ (fD hi)
theorem zPG {L:List (List UInt8)} (h:shM L=true):L.length<=60/\∀ i,i<L.length->(L.getD i []).length<=40:=by
 unfold shM grM at h;simp only [ee,eA,eZ,Bool.not_eq_true',Bool.or_eq_false_iff,ii] at h;exact ⟨oM,fun i e=>by rw [cC,cY e];exact h.2 _ (fD e)⟩
theorem zRC {L:List (List UInt8)} (h:shM L=true):(numsS L).length<=60/\CH 7981 (numsS L)/\∀ x,x∈numsS L->sz x<1000000000:=by
 obtain ⟨H,D⟩:=zPG h;have hm:∀ q,q∈numsS L->q.num.natAbs<10^40/\q.den<10^40:=fun q hq=>by
  unfold numsS at hq;obtain ⟨t,F,rfl⟩:=gI.1 hq;obtain ⟨i,f,rfl⟩:=List.getElem_of_mem F;have:=D i f;rw [cC,cY f] at this;exact zKs this
 have j:(numsS L).length<=60:=by simp [numsS];omega
 have z:=ch_small 60 j hm;refine ⟨j,z,fun x G => ?_⟩;obtain ⟨i,f,rfl⟩:=List.getElem_of_mem G;have:=z.sz i;unfold co at this;rw [cC,cY f] at this;have e:(some (numsS L)[i]).getD 0=(numsS L)[i]:=rfl;rw [e] at this;omega
end Go.Proofs.YtjiendlfobjanaaGreatDoor
namespace Go.Proofs.YtjiendlfobjanaaGreatDoor.R
variable {a:Nat} {d2 p q s:Poly}
theorem zPb (h:CH a p) (e:∀ k,co q k=co p k\/co q k = - co p k\/co q k=0):CH a q:=by
 obtain ⟨D,h⟩:=h;refine ⟨D,h.1,h.2.1,fun k => ?_⟩;obtain ⟨z,f,j⟩:=h.2.2 k;rcases e k with e | e | e
 . exact ⟨z,by rw [e];exact f,j⟩
 . exact ⟨-z,by rw [e,fQ,<- f];grind,by rw [fx];exact j⟩
 . exact ⟨0,by rw [e,dO];rfl,sM⟩
theorem zNC (p:Poly) (x:Rat):ev (mirR p) x=ev p (-x):=by
 rw [<- zQy];exact zDf x fun k=>by
  rw [zFA,zTu];by_cases h:k%2=1
  . rw [cD h,ct oM]
  . rw [ct h,cD oM]
theorem zOa (p:Poly):Trimd (mirR p):=ze _
theorem zQx (h:Trimd p):(mirR p).length=p.length:=by
 have e:∀ k,co (mirR p) k=0↔co p k=0:=fun k=>by rw [zFA];split<;>grind
 have f:(mirR p).length<=p.length:=zAr (zOa p) fun i hi=>(e i).2 (co_ge hi);have h2:p.length<=(mirR p).length:=zAr h fun i hi=>(e i).1 (co_ge hi);omega
theorem parity {g t:Poly} (z:Trimd g) (f:g≠[]) (G:Mo g) (H:Fac g p) (j:Fac g (mirR p)) (I:∀ x,ev g x=ev s x*ev p x+ev t x*ev (mirR p) x):∀ k,co g k≠0->(g.length-1-k)%2=0:=by
 obtain ⟨u,J⟩:=H;obtain ⟨v,N⟩:=j;have h1:∀ x,ev (mirR g) x=ev g x*ev (addl (prod (mir s) v) (prod (mir t) u)) x:=fun x=>by
  have D:=I (-x);rw [zNC p (-x),show - -x=x by grind,<- zNC p x,N,J] at D;rw [zNC,D,zBI,zAY,zAY,zQy,zQy];grind
 have F:=zQx z;have hgl:=zz f;have hm0:mirR g≠[]:=fun e=>by rw [e] at F;exact f (zAd F.symm)
 obtain ⟨_,w0,l,T⟩:=zHW (r:=trim (addl (prod (mir s) v) (prod (mir t) u))) (fun x=>by rw [zDm];exact h1 x) (zOa g) hm0 z (ze _);obtain ⟨c,O⟩:=gk.1 (show (trim (addl (prod (mir s) v) (prod (mir t) u))).length=1 by omega);have hcc:∀ k,co (mirR g) k=co g k*c:=fun k=>by
  rw [ev_co (q:=g.map (· * c)) (fun x=>by rw [h1,<- zDm (addl _ _),O,ev_c,zBK]) k,zBf]
 have h:=hcc (g.length-1);rw [zFA,G.resolve_left f] at h;intro k hk;have h3:=hcc k;have h4:=zSG hk;rw [zFA] at h3;by_cases e1:(g.length-1)%2=1<;>by_cases e2:k%2=1
 . omega
 . rw [cD e1] at h;rw [ct e2] at h3;grind
 . rw [ct e1] at h;rw [cD e2] at h3;grind
 . omega
theorem sq_co (g:Poly) (t:Nat):co (sqR g) t=co g (lowR g+2*t):=by
 unfold sqR;rw [zDM];split
 . rfl
 . rw [co_ge oM]
theorem zQu {g:Poly} (f:Trimd g) (e:g≠[]):lowR g<g.length:=by
 rcases dR (lowR g) g.length with h | h
 . exact h
 . have:=zz e;exact absurd (zJn (oM:g.length-1<lowR g)) (zBn f e)
theorem sq_t {g:Poly} (t:Trimd g) (h:g≠[]) (z:Mo g) (D:∀ k,co g k≠0->(g.length-1-k)%2=0):Trimd (sqR g)/\sqR g≠[]/\Mo (sqR g)/\co (sqR g) 0≠0/\(sqR g).length<=g.length:=by
 have F:=zQu t h;have j:=zOX F;have h1:=D _ j;have hlen:(sqR g).length=(g.length-lowR g+1)/2:=by simp [sqR]
 have f:co (sqR g) ((sqR g).length-1)=1:=by
  rw [sq_co,hlen,show lowR g+2*((g.length-lowR g+1)/2-1)=g.length-1 by omega];exact z.resolve_left h
 refine ⟨fun n G => ?_,fun e => ?_,.inr f,by rw [sq_co];exact j,oM⟩
 . rw [G,dD] at f;rw [f];decide
 . rw [e] at hlen;simp at hlen;omega
def up:Poly->Poly
 | []=>[]
 | a :: p=>a :: 0 :: up p
theorem up_ev (x:Rat):∀ p:Poly,ev (up p) x=ev p (x*x)
 | []=>rfl
 | a :: p=>by rw [up,ev,ev,up_ev x p,ev];grind
theorem up_co:∀ (p:Poly) (k:Nat),co (up p) k=if k%2=0 then co p (k/2) else 0
 | [],k=>by rw [up,zAa,zAa];split<;>rfl
 | a :: p,0=>rfl
 | a :: p,1=>rfl
 | a :: p,k+2=>by
  rw [up,zAF,zAF,up_co p k,show (k+2)/2=k/2+1 by omega,zAF];by_cases h:k%2=0
  . rw [cD h,cD oM]
  . rw [ct h,ct oM]
theorem co_rep (z:Nat) (q:Poly) (k:Nat):co (List.replicate z 0++q) k=if k<z then 0 else co q (k-z):=by
 by_cases h:k<z
 . rw [cD h,co_append_l (by simpa using h),zBG]
 . rw [ct h];obtain ⟨j,rfl⟩:∃ j,k=z+j:=⟨k-z,oM⟩;have:=co_append_r (p:=List.replicate z (0:Rat)) (q:=q) (k:=j);rw [fF] at this;rw [this,Nat.add_sub_cancel_left]
theorem zSe {a q:Poly} (h:Fac a q):∀ z:Nat,Fac a (List.replicate z 0++q)
 | 0=>h
 | z+1=>by
  obtain ⟨u,e⟩:=zSe h z;exact ⟨0 :: u,fun x=>by
   show ev (0 :: (List.replicate z 0++q)) x=_;rw [ev,ev,e];grind⟩
theorem sq_fac {g:Poly} (z:Trimd g) (D:g≠[]) (j:∀ k,co g k≠0->(g.length-1-k)%2=0) (h:Fac q (sqR g)):Fac (up q) g:=by
 obtain ⟨u,F⟩:=h;have h1:Fac (up q) (up (sqR g)):=⟨up u,fun x=>by rw [up_ev,up_ev,up_ev,F]⟩;obtain ⟨v,G⟩:=zSe h1 (lowR g);refine ⟨v,fun x => ?_⟩;rw [<- G];have hl:=zQu z D;have h2:=j _ (zOX hl);refine zDf x fun k => ?_;rw [co_rep,up_co,sq_co];by_cases e:k<lowR g
 . rw [cD e,zJn e]
 . rw [ct e];by_cases t:(k-lowR g)%2=0
   . rw [cD t];congr 1;omega
   . rw [ct t];by_cases f:co g k=0
     . exact f
     . have:=j k f;have:=zSG f;omega
theorem sq_bound {g:Poly} {A:Nat} (F:CH A p) (G:Trimd p) (H:p≠[]) (I:p.length<=64) (j:Trimd g) (t:g≠[]) (J:Mo g) (e:∀ k,co g k≠0->(g.length-1-k)%2=0) (N:Fac g p) :
 ∀ q,Trimd q->Mo q->Fac q (sqR g)->CH (fB A) q/\q.length<=64/\q≠[]:=fun q hq mq fq=>by
 obtain ⟨O,T,_⟩:=sq_t j t J e;obtain ⟨u,z⟩:=fq;obtain ⟨q0,_⟩:=zHW (r:=trim u) (fun x=>by rw [zDm];exact z x) O T hq (ze u);have ql:=zz q0;have hfu:=(sq_fac j t e ⟨u,z⟩).trans N;have htop:co (up q) (2*(q.length-1))=1:=by rw [up_co,cD oM,show 2*(q.length-1)/2=q.length-1 by omega];exact mq.resolve_left q0
 have h:(trim (up q)).length=2*(q.length-1)+1:=zCR (ze _) (by rw [zAU,htop];decide) fun i hi=>by
  rw [zAU,up_co];split
  . exact co_ge oM
  . rfl
 obtain ⟨f,V,_⟩:=zKR F G H I (ze (up q)) (.inr (by rw [h,dD,zAU];exact htop)) (by
  obtain ⟨v,U⟩:=hfu;exact ⟨v,fun x=>by rw [zDm];exact U x⟩)
 refine ⟨?_,oM,q0⟩;obtain ⟨D,f⟩:=f;refine ⟨D,f.1,f.2.1,fun k => ?_⟩;have:=f.2.2 (2*k);rw [zAU,up_co,cD oM,show 2*k/2=k by omega] at this;exact this
theorem zOF (x:Rat):∀ p q:Poly,derv (addl p q) x=derv p x+derv q x
 | [],q=>by rw [addl,derv,gs]
 | a :: p,[]=>by rw [addl];show _=derv (a :: p) x+0;rw [eD]
 | a :: p,b :: q=>by rw [addl,derv,derv,derv,zBI,zOF x p q];grind
theorem zQe (t x:Rat):∀ p:Poly,derv (p.map (· * t)) x=derv p x*t
 | []=>by show (0:Rat)=0*t;grind
 | a :: p=>by rw [fi,derv,derv,zBK,zQe t x p];grind
theorem zOG (q:Poly) (x:Rat):∀ p:Poly,derv (prod p q) x=derv p x*ev q x+ev p x*derv q x
 | []=>by show (0:Rat)=0*_+0*_;grind
 | a :: p=>by rw [prod,zOF,zQe,derv,zAY,zOG q x p,derv,ev];grind
theorem derv_co (h:∀ x,ev p x=ev q x) (x:Rat):derv p x=derv q x:=by
 rw [<- zHs (r:=derR p) (zIb p),<- zHs (r:=derR q) (zIb q)];exact zDf x fun k=>by rw [zIb,zIb,ev_co h]
theorem zTe {b u v:Poly} (e:Trimd b) (b0:b≠[]) (h:∀ x,ev u x*ev b x=ev v x*ev b x):∀ x,ev u x=ev v x:=by
 have f:∀ x,ev (addl u (v.map (· * (-1)))) x=0:=by
  have j:=zz b0;rcases zQc (u:=addl u (v.map (· * (-1)))) (r:=[]) (n:=0) e b0 (fun x=>by rw [zBI,zBK,zLk];have:=h x;grind) fun k _=>rfl with h | h
  . exact h
  . exact zFm oM
 intro x;have:=f x;rw [zBI,zBK] at this;grind
theorem more_fac {P f e h j d:Poly} {t:Poly} (J:∀ x,ev P x=ev f x*ev e x) (N:∀ x,ev d x=derv P x) (O:Fac f d) (F:∀ x,ev f x=ev h x*ev j x) (D:∀ x,ev d2 x=derv f x) (T:Fac h d2)
 (U:∀ x,ev h x=ev s x*ev f x+ev t x*ev d2 x) (G:Trimd h) (H:h≠[]):Fac j e:=by
 obtain ⟨z,V⟩:=O;obtain ⟨w,I⟩:=T;have e1:∀ x,ev f x*ev z x=derv f x*ev e x+ev f x*derv e x:=fun x=>by
  rw [<- V,N,derv_co (q:=prod f e) (fun x=>by rw [zAY,J]) x,zOG]
 have Y:∀ x,ev (derR e) x=derv e x:=zHs (zIb e);have e2:=zTe (u:=prod w e) (v:=prod j (addl z ((derR e).map (· * (-1))))) G H fun x=>by
  rw [zAY,zAY,zBI,zBK,Y];have a1:=e1 x;rw [<- D,I,F] at a1;grind
 have Z:=zTe (u:=[1]) (v:=addl (prod s j) (prod t w)) G H fun x=>by
  rw [zFR,zBI,zAY,zAY];have a1:=U x;rw [F,I] at a1;grind
 refine ⟨addl (prod s e) (prod t (addl z ((derR e).map (· * (-1))))),fun x => ?_⟩
 have a2:=e2 x;have a3:=Z x;rw [zAY,zAY] at a2;rw [zFR,zBI,zAY,zAY] at a3;rw [zBI,zAY,zAY];have:ev e x=(ev s x*ev j x+ev t x*ev w x)*ev e x:=by rw [<- a3];grind
 rw [this];have:ev t x*(ev w x*ev e x)=ev t x*(ev j x*ev (addl z ((derR e).map (· * (-1)))) x):=by rw [a2]
 grind
theorem zHt {r:Poly} (h:zCO p q=some r):trim (dvR p q).1=r:=by
 obtain ⟨S,e,rfl⟩:=cmap h;exact (zId e).2
theorem zQd {d:Poly} (h:zCN p=some d):∀ x,ev d x=derv p x:=zHs (zBC h).2
theorem zSx:Trimd ([1]:Poly)/\Mo ([1]:Poly):=⟨fun n e=>by
 obtain rfl:n=0:=by simpa using e
 decide,.inr rfl⟩
theorem zOo {S:Poly} {b:Nat} (t:∀ q,Trimd q->Mo q->Fac q S->CH b q/\q.length<=64/\q≠[]) (hM:300*eB (b+6)<900000000000):∀ (f:Nat) (P:Poly),Trimd P->Mo P->Fac P S->zHQ f P/\(prtF f P).length<=f/\∀ q,q∈prtF f P->Trimd q/\Mo q/\Fac q S
 | 0,P,_,_,_=>⟨trivial,cX _,fun q F=>by simp [prtF] at F⟩
 | f+1,P,H,mP,j=>by
  unfold zHQ prtF;by_cases e:(trim P).length<=1
  . exact ⟨fun h=>absurd h oM,by rw [cD e];simp,fun q F=>by rw [cD e] at F;simp at F⟩
  rw [ct e];rw [zo H] at e ⊢;have hb:b+6<=eB (b+6):=by unfold eB;omega
  obtain ⟨O,lP,P0⟩:=t P H mP j;obtain ⟨d,k,s,d2,L,J,h2,h3,_,_,cd,G,k2,N,s1,s2,s0,s3,_⟩:=zNH t oM H mP j;obtain ⟨ck,lk,k0⟩:=t k G k2 (N.trans j);obtain ⟨cs,ls,_⟩:=t s s1 s2 (s3.trans j);have er:restR P=k:=by unfold restR;rw [zEt J,zKZ h2]
  have ea:allR P=s:=by unfold allR;rw [er];exact zHt h3
  have U:=zBC J;have hdl:=zLw H (n:=P.length-2) oM J;have hkl:=(zDD h2 H U.1).2.2.1 fun e=>by rw [e] at hdl;simp at hdl
  -- the second step
  have I:∃ m,moreR k=m/\Trimd m/\Mo m/\m≠[]/\Fac m s/\CH b m/\m.length<=64/\(1<(trim k).length->zIW k/\zHM k (derR k)/\zFg k (gcR k (derR k))):=by
   unfold moreR;by_cases e2:1<(trim k).length
   . rw [cD e2];obtain ⟨d',k',s',a0,L',g1,g2,g3,_,_,ar,z,au,V,Y,Z,av,aw,_⟩:=zNH t oM G k2 (N.trans j);obtain ⟨ax,a9,aa⟩:=t k' z au (V.trans (N.trans j));obtain ⟨cs',ay,_⟩:=t s' Y Z (aw.trans (N.trans j));rw [zEt g1,zKZ g2];obtain ⟨x1,x2,x3,x4,x5⟩:=zET g2;have h65:=dx b (oM:k.length+1-k'.length<=65);refine ⟨s',zHt g3,Y,Z,av,more_fac (zGj h3 G N) (zQd J) (zET h2).2.1 (zGj g3 z V) (zQd g1) x2 x5 z aa,cs',ay,fun _=>⟨zGg ck lk oM,zGk G (zBC g1).1 lk (dz (zEj g1) lk) (ck.le oM) ar hM,zDk G z aa ck ax oM⟩⟩
   . rw [ct e2];refine ⟨[1],rfl,zSx.1,zSx.2,sM,⟨s,fun x=>by rw [zFR];grind⟩,⟨1,dE,?_,fun k => ?_⟩,sM,fun h=>absurd h e2⟩
     . have:1<=b:=by
        obtain ⟨D,h⟩:=O;refine fH fun hb0 => ?_;obtain rfl:b=0:=oM
        have:=h.2.1;have:=h.1;omega
       have:=dw (oM:0<2) this;show 2*1<=_;omega
     . cases k with
       | zero=>exact ⟨1,by rw [zAf,gZ],by
        have:1<=b:=by
         obtain ⟨D,h⟩:=O;refine fH fun hb0 => ?_;obtain rfl:b=0:=oM
         have:=h.2.1;have:=h.1;omega
        have:=dw (oM:0<2) this;show 2*1<=_;omega⟩
       | succ k=>exact ⟨0,by rw [zAF,zAa,dO];rfl,sM⟩
  obtain ⟨m,em,m1,m2,m0,m3,cm,lm,m4⟩:=I;have h65:=dx b (oM:s.length+1-m.length<=65);have h65':=dx b (oM:P.length+1-k.length<=65);obtain ⟨o,o1,_⟩:=zIF s1 m1 m0 cs cm oM;obtain ⟨T,o0,o3,o4⟩:=zON o1 s1 s0 m1 m3 s2 m2;have eo:oneR P=o:=by unfold oneR;rw [ea,er,em];exact zHt o1
  obtain ⟨cO,lO,_⟩:=t o T o3 (o4.trans (s3.trans j));have emo:monR o=o:=by
   unfold monR;rw [zo T,ct o0,zBM,o3.resolve_left o0];refine zBW (ze _) T fun k => ?_;rw [zAU,zBf];grind
  obtain ⟨r1,r2,r3⟩:=zOo t hM f k G k2 (N.trans j);rw [er,ea,em,eo,emo,zEt J];refine ⟨fun _=>⟨zGg O lP oM,zGk H U.1 lP (dz (zEj J) lP) (O.le oM) cd hM,zDk H G k0 O ck oM,m4,zDk s1 m1 m0 cs cm oM,zFV T cO oM,?_,r1⟩,by simp;omega,fun q F => ?_⟩
  . rw [zo G];omega
  . rcases eY.1 F with rfl | F
    . exact ⟨T,o3,o4.trans (s3.trans j)⟩
    . exact r3 q F
variable {B X b:Nat} {x:Rat}
theorem zSY {K:Nat} {x:Int}:∀ (n:Nat) (f:Nat->Int),(∀ k,(f k).natAbs<=K)->(evI x n f).natAbs<=K*(x.natAbs+1)^n
 | 0,f,_=>by simp [evI]
 | n+1,f,h=>by
  have e:=zSY (x:=x) n (fun k=>f (k+1)) fun k=>h (k+1);have h2:=h 0;have h3:(x*evI x n fun k=>f (k+1)).natAbs<=x.natAbs*(K*(x.natAbs+1)^n):=by
   rw [ey];exact dy _ e
  have j:K*1<=K*(x.natAbs+1)^n:=dy K (eq oM);have h5:K*(x.natAbs+1)^(n+1)=x.natAbs*(K*(x.natAbs+1)^n)+K*(x.natAbs+1)^n:=by rw [dB];grind
  rw [evI,h5];omega
theorem co_drop (p:Poly) (j k:Nat):co (p.drop j) k=co p (j+k):=by
 unfold co;rw [cC,cC,fN]
theorem sz_int {x:Int} (h:x.natAbs<2^X):sz (x:Rat)<=X:=by
 unfold sz;have e:((x:Rat)).den=1:=Rat.den_intCast x;rw [Rat.num_intCast,e];have:=zFU h;have:Nat.log2 1=0:=dE
 omega
theorem zOM {x:Int} (h:CH B p) (F:p.length<=64) (G:x.natAbs+1<=2^X) (U:4*(B+65*X+2)<900000000000):zJD p (x:Rat):=by
 obtain ⟨D,h⟩:=h;obtain ⟨z,f,H⟩:=zGF h;have hv:∀ j,∃ y:Int,ev (p.drop j) (x:Rat)*(D:Rat)=y/\y.natAbs<=2^(B+64*X):=fun j=>by
  refine ⟨evI x p.length fun k=>z (j+k),?_,?_⟩
  . rw [<- zBK,<- zLj];refine zDf _ fun k => ?_;rw [zBf,co_drop,f];rcases dR k p.length with hk | hk
    . rw [zJO _ _ _ hk]
    . have:=f (j+k);rw [co_ge (oM:p.length<=j+k),dO] at this;rw [co_ge (by rw [zFr];omega),<- this]
  . have I:=zSY (K:=2^B) (x:=x) p.length (fun k=>z (j+k)) fun k=>by have:=H (j+k);omega
    have J:(x.natAbs+1)^p.length<=2^(64*X):=by
     refine dz (gB G _) ?_;rw [<- gL];exact dw oM (by rw [dm];exact dx _ F)
    rw [eM];exact dz I (dy _ J)
 have e:sz (x:Rat)<=X:=sz_int oM;have hD2:2*D.natAbs<=2^(B+65*X+1):=dz h.2.1 (dw oM oM);intro k hk;obtain ⟨y,t,N⟩:=hv (k+1);have e1:2^(B+64*X)<=2^(B+65*X):=dw oM oM;have e2:2^(B+65*X+1)=2*2^(B+65*X):=by rw [dB];omega
 have V:(y*x).natAbs<=2^(B+65*X):=by
  rw [ey,show B+65*X=(B+64*X)+X by omega,eM];exact fs N oM
 have O:=sz_of (a:=B+65*X+1) h.1 t oM hD2;have T:=sz_of (x:=ev (p.drop (k+1)) (x:Rat)*(x:Rat)) (z:=y*x) (a:=B+65*X+1) h.1 (by rw [dH,<- t];grind) oM hD2;exact ⟨zBJ O e oM,zBJ T (h.sz k) oM⟩
theorem monR_mo (e:Trimd q) (q0:q≠[]) (f:Mo q):monR q=q:=by
 unfold monR;rw [zo e,ct q0,zBM,f.resolve_left q0];refine zBW (ze _) e fun k => ?_;rw [zAU,zBf];grind
theorem zRv (x:Rat):absR x=x\/absR x = -x:=by unfold absR;split<;>simp
theorem absR_nn (x:Rat):0<=absR x:=zIq x
theorem absR_bd (x:Rat):Bd (absR x) x:=zNS x
theorem szl_neg {l:Nat} (h:SzL l x):SzL l (-x):=by
 obtain ⟨z,d,e,f,j,t⟩:=h;exact ⟨-z,d,e,by rw [fQ,<- f];grind,by rw [fx];exact j,t⟩
theorem zTR {l:Nat} (h:SzL l x):sz x<=2*l:=by
 obtain ⟨z,d,e,f,j,t⟩:=h;exact sz_of e f j t
theorem szl_bd {l:Nat} (h:SzL l x):Bd ((2^l:Nat):Rat) x:=by
 obtain ⟨z,d,j,f,t,D⟩:=h;have hb:=zTv (z:=z) (V:=2^l) oM;have h5:Bd ((2^l:Nat):Rat) ((d.natAbs:Rat)*x):=by
  rcases Int.natAbs_eq d with e | e
  . have:(d:Rat)=(d.natAbs:Rat):=by
     have:=cW (fun z:Int=>(z:Rat)) e;exact this
    rw [<- this,Rat.mul_comm,f];exact hb
  . have:(d:Rat) = -(d.natAbs:Rat):=by
     have:=cW (fun z:Int=>(z:Rat)) e;simp only [fQ] at this;exact this
    rw [show (d.natAbs:Rat)*x = -(x*(d:Rat)) by rw [this];grind,f];exact hb.neg
 exact zTc oM (zBc (a:=0) (di _)) h5
theorem zND {q:Poly} {B:Nat} (h:CH B q) (j:1<=B):∀ k,SzL B (mostR q k)/\0<=mostR q k/\∀ i,i<k->Bd (mostR q k) (co q i)
 | 0=>⟨⟨0,1,dE,by rw [mostR,dO];rfl,sM,by
  have:=dw (oM:0<2) j;show 2*1<=_;omega⟩,by show (0:Rat)<=0;exact Rat.le_refl,fun i f=>absurd f oM⟩
 | k+1=>by
  obtain ⟨D,F,t⟩:=zND h j k;have G:SzL B (absR (co q k)):=by
   rcases zRv (co q k) with e | e<;>rw [e]
   . exact h.szl k
   . exact szl_neg (h.szl k)
  have z:=absR_bd (co q k);have H:=absR_nn (co q k);rw [mostR];unfold maxR;split
  . next e =>
    refine ⟨D,F,fun i f => ?_⟩;by_cases ei:i=k
    . subst ei;exact z.le e
    . exact t i oM
  . next e =>
    refine ⟨G,H,fun i f => ?_⟩;by_cases ei:i=k
    . subst ei;exact z
    . exact (t i oM).le gR
theorem bnd_all (D:Trimd q) (q0:q≠[]) (F:Mo q) (h:CH B q) (G:1<=B) (U:4*(B+1)<900000000000) :
 zMW q/\bndR q<=((2^(B+1):Nat):Rat)/\sz (bndR q)<=2*(B+1)/\∀ x,bndR q <= -x->ev q x≠0:=by
 have f:=monR_mo D q0 F;obtain ⟨H,O,T⟩:=zND h G (q.length-1);have I:bndR q=mostR q (q.length-1)+1:=by unfold bndR;rw [f]
 have J:SzL (B+1) (bndR q):=by
  obtain ⟨z,d,j,t,V,Y⟩:=H;have e:2^(B+1)=2*2^B:=by rw [dB];omega
  exact ⟨z+d,d,j,by rw [I,Rat.intCast_add,<- t];grind,oM,oM⟩
 refine ⟨⟨zFV D h oM,?_,?_⟩,(szl_bd J).2,zTR J,fun x N => ?_⟩
 . rw [f];intro k Z;have j:=zTR (zND h G k).1;have t:sz (absR (co q k))<=2*B:=by
    rcases zRv (co q k) with e | e<;>rw [e]
    . exact h.sz k
    . rw [zJX];exact h.sz k
   exact zBJ j t oM
 . rw [f];exact zBJ (zTR H) (dS zMS) oM
 . rw [I] at N;have hl:=zz q0;have:=zRP O N (q.length-1) q oM (F.resolve_left q0) T;intro e;rw [e] at this;rcases this with h | h
   . exact absurd h dE
   . exact absurd h dE
theorem stu_all {S:Poly} (z:∀ q,Trimd q->Mo q->Fac q S->CH b q/\q.length<=64/\q≠[]) (V:300*eB (b+6)<900000000000) (D:Trimd q) (Y:Mo q) (F:Fac q S) :
 zMc q/\(stuR q).length<=5000/\(∀ c,c∈stuR q->CH (eB (b+6)) c/\c.length<=64)/\∀ h j,h<=j->ev q h≠0->ev q j≠0->0<=cntR (stuR q) h j:=by
 obtain ⟨d,k,s,d2,L,t,H,Z,f,h5,cd,k1,k2,k3,G,s2,I,s3,T,hL⟩:=zNH z oM D Y F;have hb:b+6<=eB (b+6):=by unfold eB;omega
 obtain ⟨J,N,q0⟩:=z q D Y F;obtain ⟨ck,lk,k0⟩:=z k k1 k2 (k3.trans F);obtain ⟨cs,O,_⟩:=z s G s2 (s3.trans F);have h65:=dx b (oM:q.length+1-k.length<=65);have es:=zRb t H Z;have eL:=stuR_tie t H Z f h5 G I;refine ⟨?_,?_,by rw [eL];exact hL,fun h j U n1 n2 => ?_⟩
 . unfold zMc zPV;rw [es,zEt t,zKZ H,zEt f]
   exact ⟨⟨zGg J N oM,zGk D (zBC t).1 N (dz (zEj t) N) (J.le oM) cd V,zDk D k1 k0 J ck oM⟩,zGg cs O oM,
    zGG G I (zBC f).1 O (dz (zEj f) O) (cs.le oM) T V⟩
 . unfold stuR;rw [es,zEt f];have:=zMn s d2;have:=zEj f;omega
 . obtain ⟨u,hu⟩:=s3;have:=chain_cnt G I f h5 U (fun e=>n1 (by rw [hu,e,dO])) (fun e=>n2 (by rw [hu,e,dO]));unfold cntR;rw [eL];show 0<=flipL (L.map fun p=>rsign (ev p h)) 0 0-flipL (L.map fun p=>rsign (ev p j)) 0 0;omega
theorem ev_0 (p:Poly):ev p 0=co p 0:=by rw [zSd];grind
theorem ax_all {S:Poly} (F:1<=b) (G:∀ q,Trimd q->Mo q->Fac q S->CH b q/\q.length<=64/\q≠[]) (J:co S 0≠0) (N:300*eB (b+6)<900000000000) (h:Trimd q) (j:Mo q) (t:Fac q S) :
 zQH (b+1) q/\∀ k:Nat,bndR q<=((2^k:Nat):Rat)->0<=cntR (stuR q) (-((2^k:Nat):Rat)) 0:=by
 obtain ⟨O,lq,q0⟩:=G q h j t;have hb:b+6<=eB (b+6):=by unfold eB;omega
 have ae:128*b<=eB (b+6):=by unfold eB;omega
 obtain ⟨T,U,b3,V⟩:=bnd_all h q0 j O F oM;obtain ⟨Y,Z,H,s4⟩:=stu_all G N h j t;have hmem:∀ i,i<(stuR q).length->(stuR q).getD i []∈stuR q:=fun i f=>by
  rw [cC,cY f];exact fD f
 refine ⟨fun _=>⟨Y,T,U,oM,Z,fun k I i f => ?_,fun i f => ?_⟩,fun k I => ?_⟩
 . obtain ⟨z,D⟩:=H _ (hmem i f);have e:(-((2^k:Nat):Rat))=((-((2^k:Nat):Int):Int):Rat):=by rw [fQ];rfl
   rw [e];refine zOM (X:=b+2) z D ?_ oM;have h1:2^k<=2^(b+1):=dw oM I;have h2:2^(b+2)=2*2^(b+1):=by rw [dB];omega
   have:=iy (b+1);rw [fx,gW];omega
 . obtain ⟨z,D⟩:=H _ (hmem i f);exact zOM (X:=1) (x:=0) z D dE oM
 . have hn:(0:Rat)<=((2^k:Nat):Rat):=zBc (a:=0) (di _);refine s4 _ _ gR (V _ gR) ?_;obtain ⟨u,hu⟩:=t;intro e;have:=hu 0;rw [e,dO,ev_0] at this;exact J this
theorem zPY:∀ (l:List Poly) (m:Nat) (n a:Int),(∀ q,q∈l->∀ k:Nat,bndR q<=((2^k:Nat):Rat)->0<=cntR (stuR q) (-((2^k:Nat):Rat)) 0)->AxS l m n a->n<=a
 | [],m,n,a,_,h=>by unfold AxS at h;omega
 | q :: l,m,n,a,e,h=>by
  unfold AxS at h;rcases h with ⟨_,k,f,j⟩ | ⟨_,h⟩
  . have t:=e q sM k f;have h4:=zPY l (m+1) _ a (fun q h=>e q (by simp [h])) j;have h5:=Int.mul_nonneg (oM:(0:Int)<=2*((m+1:Nat):Int)) t;omega
  . exact zPY l (m+1) n a (fun q h=>e q (by simp [h])) h
variable {L:List Poly} {n:Nat}
def rp:Poly->Poly×Poly
 | []=>([],[])
 | a :: p=>(a :: (rp p).2.map (· * (-1)),0 :: (rp p).1)
theorem rp_re (a:Rat) (p:Poly) (x:Rat):ev (rp (a :: p)).1 x=a-x*ev (rp p).2 x:=by rw [rp];show ev (a :: _) x=_;rw [ev,zBK];grind
theorem rp_im (a:Rat) (p:Poly) (x:Rat):ev (rp (a :: p)).2 x=x*ev (rp p).1 x:=by rw [rp];show ev (0 :: _) x=_;rw [ev];grind
theorem zPx (x:Rat):∀ p q:Poly,ev (rp (addl p q)).1 x=ev (rp p).1 x+ev (rp q).1 x/\ev (rp (addl p q)).2 x=ev (rp p).2 x+ev (rp q).2 x
 | [],q=>by rw [addl];exact ⟨by show _=0+_;grind,by show _=0+_;grind⟩
 | a :: p,[]=>by rw [addl];exact ⟨by show _=_+0;grind,by show _=_+0;grind⟩
 | a :: p,b :: q=>by
  obtain ⟨e,f⟩:=zPx x p q;rw [addl,rp_re,rp_re,rp_re,rp_im,rp_im,rp_im,e,f];constructor<;>grind
theorem zUB (t x:Rat):∀ p:Poly,ev (rp (p.map (· * t))).1 x=ev (rp p).1 x*t/\ev (rp (p.map (· * t))).2 x=ev (rp p).2 x*t
 | []=>⟨by show (0:Rat)=0*t;grind,by show (0:Rat)=0*t;grind⟩
 | a :: p=>by
  obtain ⟨e,f⟩:=zUB t x p;rw [fi,rp_re,rp_re,rp_im,rp_im,e,f];constructor<;>grind
theorem zPy (q:Poly) (x:Rat):∀ p:Poly,ev (rp (prod p q)).1 x=ev (rp p).1 x*ev (rp q).1 x-ev (rp p).2 x*ev (rp q).2 x/\ev (rp (prod p q)).2 x=ev (rp p).1 x*ev (rp q).2 x+ev (rp p).2 x*ev (rp q).1 x
 | []=>⟨by show (0:Rat)=0*_-0*_;grind,by show (0:Rat)=0*_+0*_;grind⟩
 | a :: p=>by
  obtain ⟨e,f⟩:=zPy q x p;obtain ⟨a1,a2⟩:=zPx x (q.map (· * a)) (0 :: prod p q)
  obtain ⟨h,j⟩:=zUB a x q;rw [prod,a1,a2,h,j,rp_re,rp_im,rp_re,rp_im,e,f];constructor<;>grind
theorem rp_co:∀ (p:Poly) (k:Nat),co (rp p).1 k=(if k%2=0 then alt k*co p k else 0)/\co (rp p).2 k=if k%2=1 then alt k*co p k else 0
 | [],k=>by rw [rp,zAa];constructor<;>split<;>grind
 | a :: p,0=>by rw [rp];exact ⟨by rw [zAf,cD rfl,alt_0,zAf];grind,by rw [zAf,ct oM]⟩
 | a :: p,k+1=>by
  obtain ⟨e,f⟩:=rp_co p k;rw [rp];refine ⟨?_,?_⟩
  . show co (a :: _) (k+1)=_;rw [zAF,zBf,f,zAF];by_cases h:k%2=1
    . rw [cD h,cD oM,zMj h];grind
    . rw [ct h,ct oM,dO]
  . show co (0 :: _) (k+1)=_;rw [zAF,e,zAF];by_cases h:k%2=0
    . rw [cD h,cD oM,zRy h]
    . rw [ct h,ct oM]
theorem mir_bez {t:Poly} (h:∀ x,1=ev s x*ev p x+ev t x*ev (mirR p) x):∃ u v:Poly,∀ x,1=ev u x*ev (rp p).1 x+ev v x*ev (rp p).2 x:=by
 refine ⟨addl (rp s).1 (rp t).1,addl (rp t).2 ((rp s).2.map (· * (-1))),fun x => ?_⟩
 have e:=ev_co (p:=addl (prod s p) (prod t (mirR p))) (q:=[1]) fun x=>by rw [zBI,zAY,zAY,zFR,<- h]
 have f:ev (rp (addl (prod s p) (prod t (mirR p)))).1 x=1:=by
  rw [zDf x (q:=[1]) fun k=>by
   rw [(rp_co _ k).1,e];cases k with
   | zero=>rw [cD rfl,alt_0,gZ]
   | succ k=>rw [zAF,zAa];split<;>grind,zFR]
 have j:ev (rp (mirR p)).1 x=ev (rp p).1 x:=zDf x fun k=>by
  rw [(rp_co _ k).1,(rp_co _ k).1,zFA];by_cases h:k%2=0
  . rw [cD h,cD h,ct oM]
  . rw [ct h,ct h]
 have z:ev (rp (mirR p)).2 x=ev (rp p).2 x*(-1):=by
  rw [<- zBK];exact zDf x fun k=>by
   rw [(rp_co _ k).2,zBf,(rp_co _ k).2,zFA];by_cases h:k%2=1
   . rw [cD h,cD h,cD h];grind
   . rw [ct h,ct h,dO]
 rw [(zPx x _ _).1,(zPy _ x _).1,(zPy _ x _).1,j,z] at f;rw [zBI,zBI,zBK];grind
theorem zJe (q:Poly) (k:Nat):co (trim (mulR q [0,1])) k=if 1<=k then co q (k-1) else 0:=by
 rw [zQY q [0,1] 1 1 (fun j=>by
  match j with
  | 0=>rfl
  | 1=>rfl
  | j+2=>rw [zAF,zAF,zAa,ct oM]) k]
 split
 . rw [iE]
 . rfl
theorem zJd (q:Poly) (k:Nat):co (trim (mulR q [])) k=0:=by
 rw [zQY q [] 0 0 (fun j=>by rw [zAa];split<;>rfl) k];split<;>grind
theorem ln_co:∀ (p:Poly) (k:Nat),co (lnL [] [0,1] p).1 k=co (rp p).1 k/\co (lnL [] [0,1] p).2 k=co (rp p).2 k
 | [],k=>⟨rfl,rfl⟩
 | a :: p,k=>by
  have e:=ln_co p;rw [lnL];dsimp only;rw [zMo,zHq,zJd,zJe,zMo,zJe,zJd,rp];cases k with
  | zero=>rw [ct oM,ct oM];exact ⟨by rw [zAf,zAf];grind,by rw [zAf];grind⟩
  | succ k =>
   rw [cD oM,cD oM,dD,(e k).1,(e k).2];refine ⟨?_,?_⟩
   . show _=co (a :: _) (k+1);rw [zAF,zAa,zAF,zBf];grind
   . show _=co (0 :: _) (k+1);rw [zAF];grind
theorem ln_t:∀ p:Poly,Trimd (lnL [] [0,1] p).1/\Trimd (lnL [] [0,1] p).2
 | []=>⟨zEE,zEE⟩
 | a :: p=>by rw [lnL];dsimp only;exact ⟨ze _,ze _⟩
theorem zSu (p:Poly):(lnL [] [0,1] p).1.length<=p.length/\(lnL [] [0,1] p).2.length<=p.length:=by
 obtain ⟨f,h⟩:=ln_t p;refine ⟨zAr f fun i e => ?_,zAr h fun i e => ?_⟩
 . rw [(ln_co p i).1,(rp_co p i).1,co_ge e];split<;>grind
 . rw [(ln_co p i).2,(rp_co p i).2,co_ge e];split<;>grind
theorem zNV (p:Poly) (k:Nat):(co (rp p).1 k=co p k\/co (rp p).1 k = - co p k\/co (rp p).1 k=0)/\(co (rp p).2 k=co p k\/co (rp p).2 k = - co p k\/co (rp p).2 k=0):=by
 have e:alt k*co p k=co p k\/alt k*co p k = - co p k:=by
  unfold alt;split
  . left;rw [gZ]
  . right;grind
 obtain ⟨f,h⟩:=rp_co p k;rw [f,h];constructor
 . split
   . exact e.imp id .inl
   . exact .inr (.inr rfl)
 . split
   . exact e.imp id .inl
   . exact .inr (.inr rfl)
theorem ln_ch (h:CH a p):CH a (lnL [] [0,1] p).1/\CH a (lnL [] [0,1] p).2 :=
 ⟨zPb h fun k=>by rw [(ln_co p k).1];exact (zNV p k).1,zPb h fun k=>by rw [(ln_co p k).2];exact (zNV p k).2⟩
theorem zDh:sz 1=0/\sz 0=0:=⟨dE,dE⟩
theorem zKk (p:Poly):zFi p []:=fun i j _ e=>absurd e sM
theorem rows_x (p:Poly) (n k:Nat):rowsR p [0,1] n k=if 1<=k/\k-1<n then co p (k-1)*1 else 0:=zTI p [0,1] 1 1 (fun j=>by
 match j with
 | 0=>rfl
 | 1=>rfl
 | j+2=>rw [zAF,zAF,zAa,ct oM]) k n
theorem zOd (h:∀ k,sz (co p k)<=a) (D:4*a<900000000000):zFi p [0,1]:=fun i j hi f=>by
 have f:j<2:=f;have z:sz (([0,1]:Poly).getD j 0)=0:=by
  match j,f with
  | 0,_=>exact zDh.2
  | 1,_=>exact zDh.1
 have t:∀ k,sz (rowsR p [0,1] i k)<=a:=fun k=>by
  rw [rows_x];split
  . rw [iE];exact h _
  . rw [zDh.2];omega
 refine ⟨zBJ (h i) (dS z) oM,zBJ (a:=a) (b:=a) ?_ ?_ oM⟩
 . unfold partR
   match j,f with
   | 0,_=>rw [ct oM,eD];exact t _
   | 1,_ =>
    by_cases e:i<=i+1/\i+1<i+1
    . omega
    . rw [ct e,eD];exact t _
 . match j,f with
   | 0,_=>show sz (p.getD i 0*0)<=a;rw [ed,zDh.2];omega
   | 1,_=>show sz (p.getD i 0*1)<=a;rw [iE];exact h i
theorem zTt {a:Nat} (j:4*a<900000000000):∀ {p:Poly},(∀ k,sz (co p k)<=a)->p.length<=64->zJE [] [0,1] p
 | [],_,_=>trivial
 | c :: p,h,G=>by
  have f:∀ k,sz (co p k)<=a:=fun k=>h (k+1);simp at G;obtain ⟨H,I⟩:=zSu p;have z:∀ k,sz (co (lnL [] [0,1] p).1 k)<=a:=fun k=>by
   rw [(ln_co p k).1];rcases (zNV p k).1 with e | e | e<;>rw [e]
   . exact f k
   . rw [zJX];exact f k
   . rw [zDh.2];omega
  have t:∀ k,sz (co (lnL [] [0,1] p).2 k)<=a:=fun k=>by
   rw [(ln_co p k).2];rcases (zNV p k).2 with e | e | e<;>rw [e]
   . exact f k
   . rw [zJX];exact f k
   . rw [zDh.2];omega
  have D:∀ (q:Poly) k,sz ((trim (mulR q [])).getD k 0)<=0:=fun q k=>by
   rw [zKE,zJd,zDh.2];omega
  have F:∀ (q:Poly),(∀ k,sz (co q k)<=a)->∀ k,sz ((trim (mulR q [0,1])).getD k 0)<=a:=fun q hq k=>by
   rw [zKE,zJe];split
   . exact hq _
   . rw [zDh.2];omega
  unfold zJE;refine ⟨oM,oM,zKk _,zOd t j,zOd z j,zKk _,fun i=>zBJ (D _ i) (F _ t i) oM,fun i=>zBJ (F _ z i) (D _ i) oM,fun i=>zBJ (a:=a) (b:=a) ?_ ?_ oM,zTt j f oM⟩
  . rw [zKE,zHq,zJd,zJe];split
    . rw [show (0:Rat)-co (lnL [] [0,1] p).2 (i-1) = - co (lnL [] [0,1] p).2 (i-1) by grind,zJX];exact t _
    . rw [Rat.sub_self,zDh.2];omega
  . rw [zKE];cases i with
    | zero=>exact h 0
    | succ i=>rw [zAF,zAa,zDh.2];omega
theorem zTf:∀ (f:Nat) (P Q c:Poly),c∈chF f P Q->c≠[]
 | 0,_,_,c,h=>by simp [chF] at h
 | f+1,P,Q,c,h=>by
  unfold chF at h;split at h
  . simp at h
  . next e =>
    rcases eY.1 h with rfl | h
    . exact e
    . exact zTf f _ _ c h
theorem zTg (f:Trimd p) (h:p≠[]):∀ i,i<(chR p q).length->(chR p q).getD i []≠[]:=fun i hi=>by
 have j:(chR p q).getD i []∈chR p q:=by rw [cC,cY hi];exact fD hi
 unfold chR at j ⊢;rcases eY.1 j with e | e
 . rw [e];unfold shrR;rw [zo f,ct h];intro t;have h1:=zBn f h;have h2:co (trim (p.map (· * (1/absR (top p))))) (p.length-1)=co p (p.length-1)*(1/absR (top p)):=by rw [zAU,zBf]
   rw [t,zAa,zBM] at h2;have z:absR (co p (p.length-1))≠0:=by unfold absR;split<;>grind
   grind
 . exact zTf _ _ _ _ e
theorem zQW (h:chain p q=some L) (z:Trimd p) (D:p≠[]) (F:Trimd q) (O:q.length<=p.length) : -((p.length:Int)-1)<=dif L/\dif L<=(p.length:Int)-1:=by
 obtain ⟨P,G,h⟩:=cbind h;obtain ⟨Q,H,h⟩:=cbind h;obtain ⟨I,f,_⟩:=zAj G;obtain ⟨J,N,_⟩:=zAj H;rw [zo z] at f;rw [zo F] at N;have h:zBe (Q.length+2) P Q=some L:=h;rcases chainL_dif' h I J oM with ⟨e,_⟩ | ⟨_,j,t⟩
 . exact absurd (zAd (by rw [<- f,e];rfl)) D
 . rw [f] at j t;exact ⟨j,t⟩
theorem zTE (e:Trimd p) (f:p.length=n+1):∃ c d,HP n c d (fracA p) (fracB p) (if n%2=0 then reR p else imR p) (if n%2=0 then imR p else reR p)/\sg (c*d)=if n%2=0 then -1 else 1:=by
 unfold reR imR;rw [zo e];exact zMx e f (ln_t p).1 (ln_t p).2 (fun t=>by rw [(ln_co p t).1,(rp_co p t).1]) fun t=>by rw [(ln_co p t).2,(rp_co p t).2]
theorem rgt_all (j:Trimd p) (I:p≠[]) (U:p.length<=64) (O:CH a p) (T:300*eB a<900000000000) :
 zPU p/\0<=rgtR p/\∃ L,chain (if (p.length-1)%2=0 then reR p else imR p) (if (p.length-1)%2=0 then imR p else reR p)=some L/\rgtR p=(((p.length-1:Nat):Int)-(if (p.length-1)%2=0 then -1 else 1)*dif L).tdiv 2/\dif L<=((p.length-1:Nat):Int) /\ -((p.length-1:Nat):Int)<=dif L:=by
 have Z:=zz I;obtain ⟨n,z⟩:∃ n,p.length=n+1:=⟨p.length-1,oM⟩;obtain ⟨c,d,H,hs⟩:=zTE j z;have hlen:=H.lP;have hlq:=H.lQ;have hlb:=H.lb;have ha:a<=eB a:=by unfold eB;omega
 have J:reR p=(lnL [] [0,1] p).1:=by unfold reR;rw [zo j]
 have N:imR p=(lnL [] [0,1] p).2:=by unfold imR;rw [zo j]
 obtain ⟨t1,t2⟩:=ln_t p;obtain ⟨D,F⟩:=ln_ch O;obtain ⟨V,Y⟩:=zSu p;rw [<- J] at t1 D V;rw [<- N] at t2 F Y;rw [z,dD];have hroom:1<=(trim p).length/\zJE [] [0,1] (trim p):=by
  rw [zo j];exact ⟨oM,zTt (a:=2*a) oM (fun k=>O.sz k) U⟩
 have G:∀ x:Int,0<=x->0<=x.tdiv 2:=fun x hx=>Int.tdiv_nonneg hx oM;by_cases e:n%2=0
 . rw [cD e] at hlen hlq;rw [cD e,cD e,cD e];have f:reR p≠[]:=fun h=>by rw [h] at hlen;simp at hlen
   obtain ⟨L,t,_⟩:=zHp t1 t2 oM oM D F oM;have hb:=zQW t t1 f t2 oM;have hch:=zPa t (by rw [zo t1];exact f);have hrg:rgtR p=((n:Int)-(-1)*dif L).tdiv 2:=by
    unfold rgtR turnR;rw [zo j,z,dD,cD e,hch];congr 1;omega
   refine ⟨⟨hroom.1,hroom.2,fun _=>⟨zGG t1 f t2 oM oM D F T,zTg t1 f⟩,fun h => ?_⟩,?_,L,t,hrg,oM,oM⟩
   . rw [zo j,z,dD] at h;omega
   . rw [hrg];exact G _ oM
 . rw [ct e] at hlen hlq;rw [ct e,ct e,ct e];have f:imR p≠[]:=fun h=>by rw [h] at hlen;simp at hlen
   obtain ⟨L,t,_⟩:=zHp t2 t1 oM oM F D oM;have hb:=zQW t t2 f t1 oM;have hch:=zPa t (by rw [zo t2];exact f);have hrg:rgtR p=((n:Int)-1*dif L).tdiv 2:=by
    unfold rgtR turnR;rw [zo j,z,dD,ct e,hch];congr 1;omega
   refine ⟨⟨hroom.1,hroom.2,fun h => ?_,fun _=>⟨zGG t2 f t1 oM oM F D T,zTg t2 f⟩⟩,?_,L,t,hrg,oM,oM⟩
   . rw [zo j,z,dD] at h;omega
   . rw [hrg];exact G _ oM
end Go.Proofs.YtjiendlfobjanaaGreatDoor.R
