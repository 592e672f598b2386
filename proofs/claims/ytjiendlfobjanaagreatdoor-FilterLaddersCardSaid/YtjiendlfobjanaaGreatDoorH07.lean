/-
  A part of the proof: LawM, LawL, W91, W67, W94.
-/
import Derived.Test.YtjiendlfobjanaaGreatDoorH06
namespace Go.Proofs.YtjiendlfobjanaaGreatDoor.R
variable {p:Poly}
theorem zJL {g:Poly} (i:Trimd g):∀ (n:Nat) {a b:Poly} {l:List Rat},fracL n a b=some (some l)->a.length=n+1->Trimd a->Trimd b->Fac g a->Fac g b->g.length=1
 | 0,a,b,l,_,d,j,k,⟨u,t⟩,_=>by
  have f:a≠[]:=fun e=>by rw [e] at d;simp at d
  obtain ⟨y,z,e,_⟩:=zHW (r:=trim u) (fun x=>by rw [zDm];exact t x) j f i (ze u);have:=zz y;have:=zz z;omega
 | n+1,a,b,l,h,d,j,k,A,o=>by
  unfold fracL at h;split at h
  . cases h
  . next e =>
    obtain ⟨q,D,h⟩:=cbind h;obtain ⟨m,B,h⟩:=cbind h;obtain ⟨c,s,h⟩:=cbind h;obtain ⟨F,C,h⟩:=cmap h;cases F with
    | none=>cases h
    | some G =>
     refine zJL i n C oM k (zEH s).1 o (Fac.comb A o (u:=[1]) (v:=[0,-q]) fun x => ?_);rw [zSc (zEH s).2,ev_conv (zDA B).2,zFR];show _=1*ev a x+(0+x*(-q+x*0))*ev b x;show ev a x-ev b x*(0+x*(q+x*0))=_;grind
theorem zPM (x:Int):x-1<=2*x.tdiv 2:=by
 rcases Int.le_total 0 x with h | h
 . rw [fK h];omega
 . obtain ⟨y,rfl⟩:∃ y,x = -y:=⟨-x,oM⟩;rw [Int.neg_tdiv,fK oM];omega
structure MirAll (p:Poly) (A:Nat):Prop where
 room:zGE (fB A+1) p
 law:∀ {F:Option Poly} {a b e:Int},fracL (p.length-1) (fracA p) (fracB p)=some F->zHN p a b e->ask p=0->(zGD F->a+b=0)/\(¬ zGD F->0<a+b)
theorem mir_all {A:Nat} (f:Trimd p) (j:p≠[]) (hl:p.length<=64) (hc:CH A p) (hM:300*eB (fB A+A+6)<900000000000):MirAll p A:=by
 have bI:eB A<=eB (fB A+A+6):=by unfold eB;omega
 have bJ:eB (fB A+6)<=eB (fB A+A+6):=by unfold eB;omega
 have bK:eB (fB A+A)<=eB (fB A+A+6):=by unfold eB;omega
 have bL:128*(fB A+A)<=eB (fB A+A+6):=by unfold eB;omega
 have bO:A<=fB A:=by unfold fB;omega
 have an:1<=fB A:=by unfold fB;omega
 have bP:=zQx f;have cm:CH A (mirR p):=zPb hc fun k=>by
  rw [zFA];split
  . exact .inr (.inl rfl)
  . exact .inl rfl
 obtain ⟨g,o,cg,mg⟩:=zFL f (zOa p) hl oM hc cm oM;have eg:mirG p=g:=zKZ o;obtain ⟨B,g2,g3,g4⟩:=zDD o f (zOa p);have g0:=g2 (.inl j);obtain ⟨f1,f2,s,t,f3⟩:=zET o;obtain ⟨ab,gl,_⟩:=zKR hc f j hl B mg f1;have hpar:=parity B g0 mg f1 f2 f3;obtain ⟨q1,q2,q3,q4,q5⟩:=sq_t B g0 mg hpar;have hB:=sq_bound hc f j hl B g0 mg hpar f1;obtain ⟨P1,P2,P3⟩:=zOo hB oM ((sqR g).length+1) (sqR g) q1 q3 (Fac.refl _);have hax:∀ q,q∈prtR (sqR g)->zQH (fB A+1) q/\∀ k:Nat,bndR q<=((2^k:Nat):Rat)->0<=cntR (stuR q) (-((2^k:Nat):Rat)) 0:=fun q hq=>by
  obtain ⟨X,h2,h3⟩:=P3 q hq;exact ax_all an hB q4 oM X h2 h3
 -- the rest
 have bQ:=zz g0;have h65:=dx (fB A) (oM:p.length+1-g.length<=65);obtain ⟨h,hh,_⟩:=zIF f B g0 hc ab oM;have eh:mirH p=h:=by unfold mirH;rw [eg];exact zHt hh
 have ad:=zGj hh B f1;obtain ⟨X,U⟩:=zCh hh f B;obtain ⟨_,h0,ba,V⟩:=zHW ad f j B X;rw [mg.resolve_left g0,gZ] at V;have hhl:=zz h0;have hpt:=zBn f j;have hht:=zBn X h0;have chh:CH (fB A+A) h:=by
  have ae:∀ k,co (h.map (· * (1/co h (h.length-1)))) k=co h k*(1/co h (h.length-1)):=fun k=>zBf _ _ _
  have ht:Trimd (h.map (· * (1/co h (h.length-1)))):=fun n C=>by
   rw [dJ] at C;have:=X n C;rw [ae];grind
  obtain ⟨Y,_⟩:=zKR hc f j hl ht (.inr (by rw [dJ,ae];grind)) ⟨g.map (· * co h (h.length-1)),fun x=>by rw [zBK,zBK,ad];grind⟩
  have:=cm_ch (b:=fB A) (l:=A) (n:=h.length-1) (p:=h) (by
   obtain ⟨w,m,m1,m2,m3⟩:=Y.cm;exact ⟨w,1/co h (h.length-1)*m,gR,fun k=>by rw [<- m2,ae];grind,m3⟩) hht (by rw [<- V];exact hc.szl _)
  exact this.le oM
 obtain ⟨R1,R2,R3⟩:=rgt_all X h0 oM chh oM;refine ⟨?_,?_⟩
 . unfold zGE zQI;rw [eg,eh];refine ⟨zGk f (zOa p) hl oM hc cm oM,zDk f B g0 hc ab oM,⟨zQu B g0,fun k=>⟨?_,?_⟩,P1,by unfold prtR;omega,oM,fun i hi=>(hax _ (by rw [cC,cY hi];exact fD hi)).1⟩,R1⟩
   . exact zBJ (dS zDh.2) (dS zDh.2) oM
   . exact zBJ (a:=0) (by rw [dO,zDh.2];omega) (ab.sz k) oM
 . intro F a b e hF hI ao;rcases hI with ⟨hi,_⟩ | ⟨_,_,Z,ha,_⟩
   . exact absurd ao hi
   rw [eg] at Z ha;rw [eh,zo B] at ha;have bb:=zPY _ _ _ _ (fun q hq=>(hax q hq).2) Z;have htd:=zPM ((g.length:Int)-1-b);by_cases hg1:g.length=1
   . -- nothing in zBt
     obtain ⟨z,rfl⟩:=gk.1 hg1;have hz:z=1:=mg.resolve_left g0;subst hz;have hb0:b=0:=by
      have I:prtR (sqR [1])=[]:=by
       unfold prtR prtF;rw [cD (by rw [zo q1];exact dz q5 (cX 1))]
      have J:lowR [1]=0:=by unfold lowR;rw [ct dE]
      rw [I,J] at Z;unfold AxS at Z;exact Z
     subst hb0;have aK:h=p:=zBW X f fun k=>ev_co (fun x=>by rw [ad,zFR,gZ]) k;subst aK;have ha:a=rgtR h:=by
      have:((([1]:Poly).length:Int)-1-0).tdiv 2=0:=dE
      rw [ha,this,Int.add_zero]
     obtain ⟨n,C⟩:∃ n,h.length=n+1:=⟨h.length-1,oM⟩;obtain ⟨c,d,H,hs⟩:=zTE f C;obtain ⟨L,O,ah,aM,aN⟩:=R3;rw [C,dD] at O ah aM aN hF;obtain ⟨P,hP,O⟩:=cbind O;obtain ⟨Q,hQ,O⟩:=cbind O;obtain ⟨P1,P2,u,hu,P3⟩:=zAj hP;obtain ⟨Q1,Q2,v,hv,Q3⟩:=zAj hQ;have O:zBe (Q.length+2) P Q=some L:=O;have H1:=H.scale P1 Q1 (gR:u≠0) (gR:v≠0) P3 Q3
     -- the zBt divisor of the parts
     obtain ⟨c1,c2⟩:=ln_ch hc;obtain ⟨t1,t2⟩:=ln_t h;obtain ⟨l1,l2⟩:=zSu h;have U:=H.lP;have hlq:(if n%2=0 then imR h else reR h).length<=n:=by rw [H.lQ];exact H.lb
     have al:reR h=(lnL [] [0,1] h).1:=by unfold reR;rw [zo f]
     have am:imR h=(lnL [] [0,1] h).2:=by unfold imR;rw [zo f]
     rw [<- al] at t1 c1 l1;rw [<- am] at t2 c2 l2;obtain ⟨G,hG,_⟩:=zFL t1 t2 oM oM c1 c2 oM;have hG1:G.length=1:=by
      obtain ⟨Y,k2,_⟩:=zDD hG t1 t2;obtain ⟨⟨x,hx⟩,⟨y,hy⟩,_⟩:=zET hG;obtain ⟨A',B',aO⟩:=mir_bez (p:=h) (s:=s) (t:=t) fun x=>by rw [<- f3,zFR]
      have ap:∀ z,ev [1] z=ev G z*ev (trim (addl (prod A' x) (prod B' y))) z:=fun z=>by
       have I:ev (rp h).1 z=ev (reR h) z:=zDf z fun k=>by rw [al,(ln_co h k).1]
       have J:ev (rp h).2 z=ev (imR h) z:=zDf z fun k=>by rw [am,(ln_co h k).2]
       rw [zFR,zDm,zBI,zAY,zAY,aO z,I,J,hx,hy];grind
      obtain ⟨G0,w0,e,_⟩:=zHW ap zSx.1 sM Y (ze _);have:=zz G0;have:=zz w0;have:([1]:Poly).length=1:=rfl;omega
     have D:∃ f' P' Q' c' d',HP n c' d' (fracA h) (fracB h) P' Q'/\zBT f' P' Q'=some G:=by
      obtain ⟨x,hx,o⟩:=cbind hG;obtain ⟨y,hy,o⟩:=cbind o;obtain ⟨x1,x2,u,hu,x3⟩:=zBN hx;obtain ⟨y1,y2,v,hv,y3⟩:=zBN hy;rw [zo t1] at x2;rw [zo t2] at y2;by_cases e:n%2=0
      . rw [cD e,cD e] at H;exact ⟨_,_,_,_,_,H.scale x1 y1 hu hv x3 y3,o⟩
      . rw [ct e] at U hlq;rw [ct e,ct e] at H;have aP:y≠[]:=fun h=>by rw [h] at y2;simp at y2;omega
        unfold zBT at o;rw [ct aP] at o;obtain ⟨S,Z,o⟩:=cbind o;obtain ⟨m,hm,o⟩:=cbind o;rw [zKv Z (by rw [zo x1,zo y1];omega)] at hm;simp only [zo x1] at hm;obtain ⟨m1,m2,w,hw,m3⟩:=zBN hm;refine ⟨_,_,_,_,_,H.scale y1 m1 hv (t:=u*w) gR y3 fun k=>by rw [m3,x3];grind,o⟩
     obtain ⟨f',P',Q',c',d',H',D⟩:=D;have hsg:sg (c*u*(d*v))=if n%2=0 then -1 else 1:=by
      rw [<- hs,show c*u*(d*v)=c*d*(u*v) by grind];have hcd:=zSz H.hc H.hd;have huv:=fh hu hv;rw [Go.Proofs.YtjiendlfobjanaaGreatDoor.sg_mul hcd (gR:u*v≠0),Go.Proofs.YtjiendlfobjanaaGreatDoor.sg_pos huv,Int.mul_one]
     rcases zGP n H1 H' O hF D with ⟨Y,k2,_⟩ | ⟨Y,k2⟩
     . rw [hsg] at k2;refine ⟨fun _ => ?_,fun h=>absurd Y h⟩;rw [ha,ah,k2];by_cases e:n%2=0
       . rw [cD e,show ((n:Int) - -1*(-1*n))=0 by omega];rfl
       . rw [ct e,show ((n:Int)-1*(1*n))=0 by omega];rfl
     . refine ⟨fun h=>absurd h Y,fun _ => ?_⟩;have k2:=k2.resolve_right oM;rw [hsg] at k2;rw [ha,ah];have:=zPM ((n:Int)-(if n%2=0 then -1 else 1)*dif L);omega
   . -- something in zBt
     have bc:2<=g.length:=oM
     have C:¬ zGD F:=fun hA=>by
      obtain ⟨l,rfl,_⟩:=hA;obtain ⟨n,C⟩:∃ n,p.length=n+1:=⟨p.length-1,by have:=zz j;omega⟩;rw [C,dD] at hF;have mx:∀ x,ev (mirR p) x=ev p (-x):=zNC p;have ea:∀ k,co (fracA p) k=if (n-k)%2=0 then co p k else 0:=fun k=>by rw [zHw,C,dD]
      have eb:∀ k,co (fracB p) k=if (n-k)%2=0 then 0 else co p k:=fun k=>by rw [zJk,C,dD]
      have hk:∀ k,n<k->co p k=0:=fun k hk=>co_ge oM;have fa:Fac g (fracA p):=Fac.comb f1 f2 (u:=[1/2]) (v:=[if n%2=0 then 1/2 else -(1/2)]) fun x=>by
       rw [ev_c,ev_c,show 1/2*ev p x+(if n%2=0 then (1:Rat)/2 else -(1/2))*ev (mirR p) x=ev (addl (p.map (· * (1/2))) ((mirR p).map (· * (if n%2=0 then (1:Rat)/2 else -(1/2))))) x by rw [zBI,zBK,zBK];grind]
       refine zDf x fun k => ?_;rw [ea,zEz,zBf,zBf,zFA];rcases dR n k with h | h
       . rw [hk k h];grind
       . by_cases I:n%2=0<;>by_cases J:k%2=1
         . rw [ct oM,cD I,cD J];grind
         . rw [cD oM,cD I,ct J];grind
         . rw [cD oM,ct I,cD J];grind
         . rw [ct oM,ct I,ct J];grind
      have fb:Fac g (fracB p):=Fac.comb f1 fa (u:=[1]) (v:=[-1]) fun x=>by
       rw [ev_c,ev_c,show 1*ev p x + -1*ev (fracA p) x=ev p x-ev (fracA p) x by grind];exact zSc (fun k=>by rw [eb,ea];split<;>grind) x
      have la:(fracA p).length=n+1:=by rw [<- C];unfold fracA;exact List.length_mapIdx
      have ta:Trimd (fracA p):=fun m hm=>by
       obtain rfl:m=n:=oM
       rw [ea,fM,cD rfl];exact f m C
      exact hg1 (zJL B n hF la ta (ze _) fa fb)
     refine ⟨fun h=>absurd h C,fun _ => ?_⟩;by_cases hg2:g.length=2
     . have aQ:co g 0=0:=by
        by_cases e:co g 0=0
        . exact e
        . have:=hpar 0 e;omega
       have bR:lowR g≠0:=fun e=>by
        have:=zOX (zQu B g0);rw [e] at this;exact this aQ
       omega
     . omega
variable {M:Nat}
theorem rows_0x (c:Rat) (b:Poly) (k:Nat):rowsR [0,c] b 2 k=if 1<=k then c*co b (k-1) else 0:=by
 show ((0:Rat)+(if 0<=k then (0:Rat)*co b (k-0) else 0))+(if 1<=k then c*co b (k-1) else 0)=_;rw [cD (di k)];grind
theorem zKF (c:Rat) (b:Poly) (k:Nat):co (trim (mulR [0,c] b)) k=if 1<=k then c*co b (k-1) else 0:=by
 rw [zSI];split
 . exact rows_0x c b k
 . next h =>
   have h:¬ k<2+b.length:=h;rw [cD oM,co_ge oM,ed]
theorem zSk:∀ {n:Nat} {a b:Poly} {F:Option Poly},fracL n a b=some F->frR n a b=F
 | 0,_,_,_,h=>by cases h;rfl
 | n+1,a,b,F,h=>by
  unfold fracL at h;unfold frR;split at h
  . next e=>cases h;rw [cD e]
  . next e =>
    obtain ⟨q,d,h⟩:=cbind h;obtain ⟨m,j,h⟩:=cbind h;obtain ⟨c,i,h⟩:=cbind h;obtain ⟨l,f,rfl⟩:=cmap h;have d:=zFD d;have hcc:psubR a (trim (mulR [0,top a/top b] b))=c:=zBW (ze _) (zEH i).1 fun k=>by
     rw [zHq,zKF,(zEH i).2,(zDA j).2,zFM,d];cases k with
     | zero=>rw [ct oM,cD rfl]
     | succ k=>rw [cD oM,ct oM];grind
    rw [ct e,hcc,zSk f,d]
theorem mulRoom_0x {b:Poly} {c:Rat} {u v y:Nat} (h:sz c<=v) (f:∀ k,sz (co b k)<=u) (l:∀ k,sz (c*co b k)<=y) (m:u+v+y<900000000000):zFi [0,c] b:=fun i j d hj=>by
 have d:i<2:=d
 match i,d with
 | 0,_ =>
  refine ⟨zBJ (a:=0) (by show sz 0<=0;rw [zDh.2];omega) (f j) oM,zBJ (a:=0) (b:=0) ?_ ?_ oM⟩
  . unfold partR rowsR;rw [ct oM,eD,zDh.2];omega
  . show sz ((0:Rat)*co b j)<=0;rw [dO,zDh.2];omega
 | 1,_ =>
  refine ⟨zBJ h (f j) oM,zBJ (a:=0) (b:=y) ?_ (l j) oM⟩;have e:partR [0,c] b 1 j (1+j)=0:=by
   unfold partR;rw [ct oM];show (0+(if 0<=1+j then (0:Rat)*co b (1+j-0) else 0))+0=0;rw [cD oM];grind
  rw [e,zDh.2];omega
theorem zTq {a0 b0:Poly} {A B:Nat} (h1:CH A a0) (h2:CH A b0) (l1:a0.length<=64) (l2:b0.length<=64) (hB:eB A<=B) (hM:3000*B<900000000000):∀ {n i:Nat} {a b:Poly},Trimd a->Trimd b->a.length=n+1->n+i<=64->CM B a->CM B b->SzL (A+i*(2*B+1)) (co a n)->SzL (A+i*(2*B+1)) (co b (n-1)) ->
 ((a=a0/\b=b0)\/Euc a0 b0 a b)->zLT n a b
 | 0,_,_,_,_,_,_,_,_,_,_,_,_=>trivial
 | n+1,i,a,b,ha,hb,hl,hn,ca,cb,sa,sb,hE=>by
  unfold zLT;intro e;have hbl:b.length=n+1:=oM
  have hb0:b≠[]:=fun h=>by rw [h] at hbl;simp at hbl
  have hat:=ha (n+1) hl;have hbt:=hb n hbl
  have hAB : A ≤ B := by have : A ≤ eB A := by unfold eB; omega
                         omega
  have hi:=dx (2*B+1) (oM:i<=63);generalize hX:A+i*(2*B+1)+B=X;have hXb:X<=130*B+63:=oM
  have hB1:1153<=B:=by unfold eB at hB;omega
  have cA:=cm_ch ca hat sa;have cB:=cm_ch cb hbt (by rw [dD] at sb;exact sb);rw [hX] at cA cB;obtain ⟨D,cA⟩:=cA;obtain ⟨E,cB⟩:=cB;obtain ⟨w,hw,hw0,hw2,d1,d2,⟨z,z1,z2⟩,d3⟩:=zJh (m:=a.length-1) (n:=b.length-1) cA cB (zBn hb hb0);rw [<- zBM,<- zBM] at z1;have d3:∀ j,∃ z:Int,(top a/top b*co b j)*((D*w:Int):Rat)=z/\4*z.natAbs<=2^(X+X):=d3;have hq:sz (top a/top b)<=2*(X+X):=sz_of (a:=X+X) d2 z1 oM oM;have hbq:∀ k,sz (top a/top b*co b k)<=2*(X+X):=fun k=>by
   obtain ⟨z,z1,z2⟩:=d3 k;exact sz_of (a:=X+X) d2 z1 oM oM
  have hcc:∀ k,co (psubR a (trim (mulR [0,top a/top b] b))) k=co a k-if k=0 then 0 else co b (k-1)*(co a (n+1)/co b n):=fun k=>by
   rw [zHq,zKF,zBM,zBM,hl,hbl,dD,dD];cases k with
   | zero=>rw [ct oM,cD rfl]
   | succ k=>rw [cD oM,ct oM];grind
  refine ⟨zBJ (by rw [zBM];exact cA.sz _) (by rw [zBM];exact cB.sz _) oM,mulRoom_0x hq (fun k=>cB.sz k) hbq oM,fun i=>zBJ (a:=2*X) (b:=2*(X+X)) (cA.sz i) ?_ oM,?_⟩
  . rw [zKE,zKF];split
    . exact hbq _
    . rw [zDh.2];omega
  . generalize hcdef:psubR a (trim (mulR [0,top a/top b] b))=c at hcc ⊢;have hct:Trimd c:=by rw [<- hcdef];exact ze _
    have hcl:c.length<=n+1:=zAr hct fun k hk=>by
     rw [hcc,ct oM];by_cases ek:k=n+1
     . subst ek;rw [dD];grind
     . rw [co_ge (l:=a) oM,co_ge (l:=b) oM,dO];grind
    by_cases hcn:n+1<=c.length
    . cases n with
      | zero=>trivial
      | succ n=>unfold zLT;intro e;omega
    . have hR:Rem a b c:=by
       refine ⟨[0,co a (n+1)/co b n],1,dE,fun x => ?_,oM,hb,hb0⟩;rw [zKP (p:=prod b [0,co a (n+1)/co b n]) (q:=c) (r:=a) (fun k=>by rw [zCp,zFM,hcc];grind),zAY];grind
      have hE':Euc a0 b0 b c:=hE.elim (fun h=>by rw [<- h.1,<- h.2];exact .one hR) fun h=>h.snoc hR;have cc:CM B c:=by
       by_cases ec:c=[]
       . exact ⟨fun _=>0,1,dE,fun k=>by rw [ec,zAa,dO];rfl,fun k=>di _⟩
       . obtain ⟨w,m,h3,h4,h5⟩:=zPi hE' ec hct h1 h2 oM;refine ⟨w,m,h3,h4,fun k=>dz (h5 k) (dw oM (dz ?_ hB))⟩;have:=dx (A+9) (oM:a0.length+b0.length<=128);unfold eB;omega
      have hii:A+i*(2*B+1)+2*B+1=A+(i+1)*(2*B+1):=by rw [eF];omega
      have sc:SzL (A+(i+1)*(2*B+1)) (co c (n-1)):=by
       rw [<- hii,hcc];have:=zSD ca cb hat hbt sa (n-1) (n-1-1) (decide (n-1=0));by_cases e0:n-1=0
       . rw [cD e0];rw [cZ e0] at this;exact this
       . rw [ct e0];rw [cU e0] at this;exact this
      exact zTq h1 h2 l1 l2 hB hM (n:=n) (i:=i+1) hb hct hbl oM cb cc (by rw [dD] at sb;exact sb.le oM) sc (.inr hE')
theorem zOc (p:Poly):monR (trim p)=monR p:=by unfold monR;rw [zGY]
theorem dvR_trim (p g:Poly):dvR (trim p) g=dvR p g:=by unfold dvR;rw [zGY]
theorem zOb (p:Poly):mirR (trim p)=mirR p:=zBW (ze _) (ze _) fun k=>by rw [zFA,zFA,zAU]
theorem zKj (p:Poly):mirG (trim p)=mirG p:=by unfold mirG gcR;rw [zOb,zOc]
theorem zOZ (p:Poly):mirH (trim p)=mirH p:=by unfold mirH;rw [zKj,dvR_trim]
theorem rou_trim (h:zGE M (trim p)):zGE M p:=by
 unfold zGE zHM zFg zFh at h;rw [zGY,zOb,zOc,zKj,zOZ] at h;exact h
theorem zQU (p:Poly):ask (trim p)=ask p:=by unfold ask;rw [zGY]
theorem isRouth_trim {a b e:Int} (h:zHN p a b e):zHN (trim p) a b e:=by
 unfold zHN;rw [zQU,zKj,zOZ];exact h
theorem zNt (p:Poly):ask p=asked p:=by
 unfold ask asked;by_cases h:41<(trim p).length
 . rw [cD h,cD h]
 . rw [ct h,ct h];by_cases a:trim p=[]
   . rw [cD a,cD (by rw [a];rfl)]
   . rw [ct a,ct fun e=>a (zAd e)]
def fracF:Option Poly->Poly×Int
 | some l=>(l,0)
 | none=>([],6)
def fraR (p:Poly):Poly×Int:=if ask p≠0 then ([],ask p) else fracF (frO p)
def ladR (p:Poly) (a b e:Int):Poly×Int:=if e≠0 then ([],e) else if 0<a+b then ([],180) else fraR p
theorem ladders_law (hl:p.length<=60) (O:CH 7981 p):∃ S T:Poly×Int,zCf p=some S/\zJN p=some T/\fraR p=S/\(ask p=0->zMX p/\zGE (fB 7981+1) p)/\(∀ a b e,zHN p a b e->ladR p a b e=T)/\(∀ x,x∈S.1->sz x<1000000000)/\∀ x,x∈T.1->sz x<1000000000:=by
 have ab:=zHK p;have hct:CH 7981 (trim p):=O.of_co (zAU p);by_cases f:ask p=0
 . have d:asked p=0:=by rw [<- zNt];exact f
   have t:trim p≠[]:=fun e=>by
    rw [zNt] at f;unfold asked at f;rw [ct (by rw [e];simp),cD e] at f;omega
   obtain ⟨n,D⟩:∃ n,(trim p).length=n+1:=⟨(trim p).length-1,by have:=zz t;omega⟩;have e1:eB 7981=1022721:=rfl;have e2:fB 7981=1030702:=rfl;have e3:eB (1030702+6)=131931777:=rfl;have e4:eB (1030702+7981+6)=132953345:=rfl;obtain ⟨r,y⟩:=routh_ex2 (p:=trim p) (A:=7981) (ze p) t oM (by rw [e2,e3];omega) (by rw [e1];omega) hct;have hrp:zJT p=some r:=by
    unfold zJT at y ⊢;rw [zGY] at y;exact y
   have Q:∀ k,co (fracA (trim p)) k=co (trim p) k\/co (fracA (trim p)) k=0:=fun k=>by
    rw [zHw];split
    . exact .inl rfl
    . exact .inr rfl
   have U:∀ k,co (fracB (trim p)) k=co (trim p) k\/co (fracB (trim p)) k=0:=fun k=>by
    rw [zJk];split
    . exact .inr rfl
    . exact .inl rfl
   have q:(fracA (trim p)).length=n+1:=by rw [<- D];unfold fracA;simp
   have s:=zSm (ze p);have cA:=hct.part Q;have cB:=hct.part U;have hBl:(fracB (trim p)).length<=60:=by
    unfold fracB;have:=zHK ((trim p).mapIdx fun k c=>if ((trim p).length-1-k)%2=0 then 0 else c);rw [List.length_mapIdx] at this;omega
   have J:CM 1022721 (fracA (trim p)):=cA.cm.le oM;have lB:CM 1022721 (fracB (trim p)):=cB.cm.le oM;obtain ⟨F,V,G⟩:=zOS (a0:=fracA (trim p)) (b0:=fracB (trim p)) (A:=7981) (B:=1022721) cA cB oM oM (dS e1) oM (n:=n) (i:=0) s (ze _) q oM J lB (by rw [gU];exact cA.szl n) (by rw [gU];exact cB.szl (n-1)) (.inl ⟨rfl,rfl⟩);have o:=zTq (a0:=fracA (trim p)) (b0:=fracB (trim p)) (A:=7981) (B:=1022721) cA cB oM oM (dS e1) oM (n:=n) (i:=0) s (ze _) q oM J lB (by rw [gU];exact cA.szl n) (by rw [gU];exact cB.szl (n-1)) (.inl ⟨rfl,rfl⟩);have hmir:=mir_all (p:=trim p) (A:=7981) (ze p) t oM hct (by rw [e2,e4];omega);have hF':fracL ((trim p).length-1) (fracA (trim p)) (fracB (trim p))=some F:=by rw [D,dD];exact V
   have z:zCf p=some (fracF F):=by
    unfold zCf;rw [d,ct dE];refine (cW (Option.map _) hF').trans ?_;cases F<;>rfl
   have H:routh p=some (r.1,r.2,0):=by unfold routh;rw [d,hrp];rfl
   have I:frO p=F:=zSk hF';have hfr:fraR p=fracF F:=by unfold fraR;rw [f,ct dE,I]
   obtain ⟨X,Y⟩:=hurwitz_iff (p:=trim p) (F:=F) (r:=r) (ze p) t hF' y;have hsz:∀ x,x∈(fracF F).1->sz x<1000000000:=fun x j=>by
    cases F with
    | none=>simp [fracF] at j
    | some l=>have:=(G l rfl).2 x j;omega
   have m:zJN p=some (if 0<r.1+r.2 then ([],180) else fracF F):=by
    unfold zJN;rw [H];show (if (0:Int)≠0 then some (([]:Poly),(0:Int)) else if 0<r.1+r.2 then some (([]:Poly),(180:Int)) else zCf p)=_;rw [ct dE,z];split<;>rfl
   refine ⟨fracF F,_,z,m,hfr,fun _=>⟨⟨fun i => ?_,by rw [D,dD];exact o⟩,rou_trim hmir.room⟩,fun a b e C => ?_,hsz,fun x j => ?_⟩
   . have:=hct.sz i;omega
   . have he:e=0:=by
      rcases C with ⟨h,_⟩ | ⟨_,h,_⟩
      . exact absurd f h
      . exact h
     obtain ⟨Z,m2⟩:=hmir.law hF' (isRouth_trim C) (by rw [zQU];exact f);unfold ladR;rw [he,ct dE,hfr];by_cases hpos:zGD F
     . have L:=Z hpos;have h2:=X hpos;rw [ct oM,ct (by rw [h2];decide)]
     . have L:=m2 hpos;have h2:=Y hpos;rw [cD L,cD h2]
   . split at j
     . simp at j
     . exact hsz x j
 . have d:asked p≠0:=by rw [<- zNt];exact f
   have z:zCf p=some ([],asked p):=by unfold zCf;rw [cD d]
   have m:zJN p=some ([],asked p):=by
    unfold zJN routh;rw [cD d];show (if asked p≠0 then some (([]:Poly),asked p) else _)=_;rw [cD d]
   refine ⟨_,_,z,m,by unfold fraR;rw [cD f,zNt],fun h=>absurd h f,fun a b e C => ?_,fun x j=>by simp at j,fun x j=>by simp at j⟩;rcases C with ⟨_,_,_,h⟩ | ⟨h,_⟩
   . unfold ladR;rw [h,cD f,zNt]
   . exact absurd h f
end Go.Proofs.YtjiendlfobjanaaGreatDoor.R
namespace Go.Proofs.YtjiendlfobjanaaGreatDoor.R
open Go Go.RowKit Go.Proofs Tryz
set_option maxRecDepth 10000
set_option maxHeartbeats 2000000
attribute [local irreducible] Runs WPE CallK Ret
variable {M:Nat} {p:Poly} {v:Value} {w:World}
theorem zMk (h:ask p=0):0<(trim p).length/\(trim p).length<=41:=by
 unfold ask at h;by_cases a:41<(trim p).length
 . rw [cD a] at h;cases h
 . rw [ct a] at h;by_cases c:(trim p).length=0
   . rw [cD c] at h;cases h
   . omega
theorem RFraction_ok {p:List Rat} (i:IsPoly w v p) (f:ask p=0->zMX p):Ret prog 43 #[v] w (fun r w'=>∃ u,r = .tuple #[u,.int .i64 (fraR p).2]/\IsPoly w' u (fraR p).1):=by
 refine J0 20 func43 rfl (rj (ag (ag (rM 1 ?_))));refine rJ (K1 (j0 E0 yB ((zHo i).mono fun _ _ _ h=>(show _=Value.int .i64 (ask p) from h)) fun vi k E0 hi => ?_));subst hi;refine ag (rM 17 ?_);refine zA (rj (mv ?_));refine K1 (zC (v := .bool (decide (ask p≠0))) rfl rfl (sB (by rw [Bool.eq_iff_iff];simp)) ?_);refine rM 1041 ?_;refine K0 rfl ?_ ?_<;>intro hc
 . have c:ask p≠0:=dh hc;have d:fraR p=([],ask p):=cD c;refine rJ (ag (ag (rM 12 ?_)));refine zE (zU (zM ?_));exact ⟨rfl,_,zv rfl rfl rfl,E0,_,by rw [d];rfl,by rw [d];exact zDH⟩
 . have c:ask p=0:=gm (de hc);have d:fraR p=fracF (frO p):=ct (fun e=>e c);refine sk (zA ?_);rcases hfo:frO p with _ | l
   . rw [hfo] at d;refine rI (K1 (zJ yB (CallK.of_ret (zKX (i.ext E0) (zMk c).1 (zMk c).2 (f c)) fun m k j a => ?_) rfl));rw [hfo] at a;obtain ⟨u,rfl⟩:=a;replace E0:=E0.trans j;refine mv (xt rfl (xt rfl (ag (ag (rS 96 ?_)))));refine zA (rJ (K1 (zp rfl (rm [5,18] ?_))));refine wct rfl (rj (ag (ag (rM 12 ?_))));refine zE (zU (zM ?_));exact ⟨rfl,_,zv rfl rfl rfl,E0,_,by rw [d];rfl,by rw [d];exact zDH⟩
   . rw [hfo] at d;refine rI (K1 (zJ yB (CallK.of_ret (zKX (i.ext E0) (zMk c).1 (zMk c).2 (f c)) fun m k j a => ?_) rfl));rw [hfo] at a;obtain ⟨u,rfl,n⟩:=a;replace E0:=E0.trans j;refine mv (xt rfl (xt rfl (ag (ag (rS 96 ?_)))));refine zA (rJ (K1 (zp rfl (rm [5,18] ?_))));refine wcf rfl (sk (rJ (ag (ag (rM 12 ?_)))));refine zE (zM ?_);exact ⟨rfl,_,zv rfl rfl rfl,E0,_,by rw [d];rfl,by rw [d];exact n⟩
theorem RLadder_ok {p:List Rat} (k:IsPoly w v p) (f:ask p=0->zMX p/\zGE M p):Ret prog 44 #[v] w (fun r w'=>∃ u a b e,zHN p a b e/\r = .tuple #[u,.int .i64 (ladR p a b e).2]/\IsPoly w' u (ladR p a b e).1):=by
 refine J0 24 func44 rfl (rj (ag (ag (rM 1 ?_))));refine rJ (K1 (zJ yB (CallK.of_ret (zMa (M:=M) k fun h=>(f h).2) fun vt w2 hE hr2 => ?_) rfl));obtain ⟨a,b,e,rfl,i⟩:=hr2;have hp1:=k.ext hE;replace E0:=E0.trans hE;refine mv (xt rfl (xt rfl (xt rfl (ag (ag (ag (rM 113 ?_)))))));refine zA (rj (mv ?_));refine K1 (zC (v := .bool (decide (e≠0))) rfl rfl (sB (by rw [Bool.eq_iff_iff];simp)) ?_);refine rM 16497 ?_;refine K0 rfl ?_ ?_<;>intro d
 . have he:e≠0:=dh d;have c:ladR p a b e=([],e):=cD he;refine rJ (ag (ag (rM 12 ?_)));refine zE (zU (zM ?_));exact ⟨rfl,_,zv rfl rfl rfl,E0,_,a,b,e,i,by rw [c];rfl,by rw [c];exact zDH⟩
 . have he:e=0:=gm (de d);have c:ladR p a b e=if 0<a+b then ([],180) else fraR p:=ct (fun h=>h he)
   have o : -2000000000000<=a+b/\a+b<=2000000000000:=by
    rcases i with ⟨_,l,m,_⟩ | ⟨_,_,_,_,l,m,q,s⟩<;>omega
   refine sk (zA (rJ (mv (K1 (zC (v := .int .i64 (a+b)) rfl rfl (sI (zm oM oM)) (K1 (zC (v := .bool (decide (0<a+b))) rfl rfl (sB (rfl)) (rm [0,19] ?_))))))));refine K0 rfl ?_ ?_<;>intro d
   . have j:0<a+b:=dh d;rw [cD j] at c;refine rj (ag (ag (rM 12 ?_)));refine zE (zU (zM ?_));exact ⟨rfl,_,zv rfl rfl rfl,E0,_,a,b,e,i,by rw [c];rfl,by rw [c];exact zDH⟩
   . have j:¬ 0<a+b:=de d;rw [ct j] at c;refine sk (rJ (K1 (zJ yB (CallK.of_ret (RFraction_ok hp1 fun h=>(f h).1) fun vt w2 hE hr2 => ?_) rfl)));obtain ⟨u,rfl,n⟩:=hr2;replace E0:=E0.trans hE;refine xt rfl (xt rfl (ag (ag (rM 12 ?_))));refine zE (zM ?_);exact ⟨rfl,_,zv rfl rfl rfl,E0,_,a,b,e,i,by rw [c];rfl,by rw [c];exact n⟩
end Go.Proofs.YtjiendlfobjanaaGreatDoor.R
namespace Go.Proofs.YtjiendlfobjanaaGreatDoor
open Go Go.RowKit Go.Proofs Tryz
set_option maxRecDepth 10000
set_option maxHeartbeats 2000000
attribute [local irreducible] Runs WPE CallK Ret
variable {E N b ix:Nat} {K:Value->World->Prop} {P:Program} {T ty:TypeId} {af:Array Edge} {g:Option (Nat×Bool)} {pos:String} {r:Option Nat} {w:World} {σ:Operand->Value}
theorem zGu {d:Option Tmp} {T:Nat} {x i:Operand} {k:IntKind} (a:P.underlying T=some (.array N E)) (c:(P.info? E).map (·.size)=some 1) (f:σ x = .pointer (some ⟨b,0,none⟩)) (h:σ i = .int k (ix:Int)) (j:ix<N) (l:K (.pointer (some ⟨b,ix,none⟩)) w):Runs P r ⟨d,.indexAddr T x i,ty,pos,af,g⟩ σ w K:=by
 refine zy (fun _ e=>by cases e) ?_ l;have hl:P.arrayLen T=N:=by simp [Program.arrayLen,a]
 simp [execOp,Instr.indexAt,run_underlying a,f,h,asIntOf,j,run_sizeOf' c,zAm,Instr.sureAddr]
theorem zLQ:prog.underlying 74=some (.array 2 52):=kR
theorem zRd:(prog.info? 52).map (·.size)=some 1:=kR
theorem IsVs.two {t s:List UInt8} (a:Blk w b T [S t,S s]):IsVs w (.slice (some ⟨b,0,none⟩) 2 2) [t,s]:=by
 refine ⟨_,2,rfl,cX _,fun i c => ?_⟩
 match i,c with
 | 0,_=>exact ⟨⟨b,0,none⟩,rfl,a.lt,by rw [zAm,a.cell];rfl⟩
 | 1,_=>exact ⟨⟨b,0,none⟩,rfl,a.lt,by rw [zAm,a.cell];rfl⟩
variable {cu:Nat} {pu pv:Option Addr} {u v:Value}
theorem IsVV.three {c:Option Addr} {d e:Nat} {M K J:List (List UInt8)} (a:Blk w b T [.slice pu M.length cu,.slice pv K.length d,.slice c J.length e]) (h:IsVs w (.slice pu M.length cu) M) (j:IsVs w (.slice pv K.length d) K) (f:IsVs w (.slice c J.length e) J):IsVV w (.slice (some ⟨b,0,none⟩) 3 3) [M,K,J]:=by
 refine ⟨_,3,rfl,cX _,fun i k => ?_⟩
 match i,k with
 | 0,_=>exact ⟨⟨b,0,none⟩,pu,cu,rfl,a.lt,by rw [zAm,a.cell];rfl,h⟩
 | 1,_=>exact ⟨⟨b,0,none⟩,pv,d,rfl,a.lt,by rw [zAm,a.cell];rfl,j⟩
 | 2,_=>exact ⟨⟨b,0,none⟩,c,e,rfl,a.lt,by rw [zAm,a.cell];rfl,f⟩
theorem qt_mem {L:List (List UInt8)} (h:∀ i,i<L.length->(L.getD i []).length<=40):∀ i,i<(numsS L).length->Qt 3000 ((numsS L).getD i 0)/\True:=fun i hi=>by
 have a:i<L.length:=by simpa [numsS] using hi
 refine ⟨?_,trivial⟩;have e:(numsS L).getD i 0=(zk (L.getD i [])).1:=by
  unfold numsS;rw [cC,cC,fC,cY a];rfl
 rw [e];exact zPv (zNQ (h i a)) dE
theorem zKe (r a:Rat):∀ (l:List Rat) (b:Bool) (n:Int) (es:List El),(ladEl r a l b n es).2.length=es.length+l.length
 | [],_,_,_=>rfl
 | x :: l,true,n,es=>by rw [ladEl,zKe r a l,dN];simp;omega
 | x :: l,false,n,es=>by rw [ladEl,zKe r a l,dN];simp;omega
theorem ladN_len (q:List Rat) (r a:Rat):(ladN q r a).2.1.length<=20:=by
 unfold ladN;split
 . simp
 . next h =>
   have e:q.length<=10:=by
    rcases dR 10 q.length with c | c
    . exact absurd (.inr (.inl c)) h
    . exact c
   have d:=zKe r a q.reverse true 1 [el1];rw [List.length_reverse] at d;unfold ladO doneS;split
   . simp
   . show ((ladE q r a).2++[_]).length<=20;rw [dN];unfold ladE;rw [d];simp;omega
theorem FilterLadders_ok {L M:List (List UInt8)} {t s:List UInt8} (H:IsVs w v L) (d:IsVs w u M) (hP:Pow10 w):Ret prog 7 #[v,u,.agg #[S t,S s]] w (fun r _=>r = .bool true):=by
 obtain ⟨pl,cl,rfl,aG,ai⟩:=H;have H:IsVs w (.slice pl L.length cl) L:=⟨pl,cl,rfl,aG,ai⟩;obtain ⟨pm,cm,rfl,aH,ai⟩:=d;have d:IsVs w (.slice pm M.length cm) M:=⟨pm,cm,rfl,aH,ai⟩;have E0:Ext w w:=Ext.refl w;refine J0 118 func7 rfl (rj ?_);refine K1 (zn (Z2 E0 H.ext d.ext fun b1 w1 E0 H d hgb1 c=>ag (rM 35 ?_)));refine zA (zA ?_);replace c:Blk _ b1 74 [S t,S s]:=c;refine rI (mv (K1 (zGu (ix:=0) zLQ zRd rfl rfl dE (K1 (zD zCz rfl c rfl (K1 (zGu (ix:=1) zLQ zRd rfl rfl dE (K1 (zD zCz rfl c rfl ?_)))))))));refine K1 (zi (cs:=[S t,S s]) Tryz.underlying22 info52' dE dE kR fun b6 w7 hb7 f hB7 hs => ?_);obtain ⟨E0,H,d,c⟩:=V3 f E0 H.ext d.ext c.ext;have V:=IsVs.two hB7;refine K1 (zi (cs:=[.slice pl L.length cl,.slice pm M.length cm,.slice (some ⟨b6,0,none⟩) 2 2]) zNg info22' dE dE kR fun b7 w7 hb7 f hB7 hs => ?_);obtain ⟨E0,H,d,V,c⟩:=V4 f E0 H.ext d.ext V.ext c.ext;refine K1 (j3 E0 H.ext d.ext c.ext yB (shortL_ok (IsVV.three (J:=[t,s]) hB7 H d V) sM) fun vs w2 E0 H d c q => ?_);clear V;obtain rfl:=q.trans (cW Value.bool (sM:[L,M,[t,s]].all shM=(shM L&&(shM M&&shM [t,s]))));refine K1 (zp rfl (rS 67108899 ?_))
 refine K0 rfl ?_ ?_<;>intro hc
 . refine rj (K1 (j3 E0 H.ext d.ext c.ext yB (zQG) fun va w3 E0 H d c q => ?_));subst q;refine ag (rm [6] ?_);exact zE (zU (en rfl E0 rfl))
 . have aI:shM L=true/\shM M=true/\shM [t,s]=true:=by
    have hc:(!(shM L&&(shM M&&shM [t,s])))=false:=hc;simpa using hc
   obtain ⟨hL,hM,ap⟩:=aI;obtain ⟨aX,aq⟩:=zPG hL;obtain ⟨aY,Z⟩:=zPG hM;have ht40:t.length<=40:=(zPG ap).2 0 sM;have hs40:s.length<=40:=(zPG ap).2 1 sM;obtain ⟨aJ,aK,-⟩:=zRC hL;obtain ⟨bq,-,-⟩:=zRC hM;obtain ⟨S',T',l1,l2,l3,l4,l5,l6,l7⟩:=R.ladders_law aJ aK;refine sk (rj (mv ?_));refine K1 (j3 E0 H.ext d.ext c.ext yB (zPT H (fun j hj=>by have:=aq j hj;omega) oM) fun vx0 w3 E0 H d c q => ?_);obtain ⟨vx,vy,rfl,aj,ak⟩:=q;have o:=(aj.own oM).poly;have F:=ak.poly oM;refine mv (xt rfl (xt rfl (ag (ag (rM 418 ?_)))));refine rJ (K1 (j4 E0 d.ext c.ext o.ext F.ext yB (zHL o l1) fun vd w4 E0 d c o F q => ?_));obtain ⟨ua,rfl,I⟩:=q;replace I:=I.poly;refine mv (xt rfl (xt rfl (ag (ag (rM 1954 ?_)))));refine rJ (K1 (j5 E0 d.ext c.ext o.ext F.ext I.ext yB (R.RFraction_ok F fun h=>(l4 h).1) fun ve w5 E0 d c o F I q => ?_));obtain ⟨ub,rfl,U⟩:=q;rw [l3] at U ⊢;refine mv (xt rfl (xt rfl (ag (ag (rM 8098 ?_)))));refine zA (rJ (mv (K1 (zC (v := .bool (false)) rfl rfl (sB (bne_self_eq_false _)) (mv (K7 (K7 (K2 (j6 E0 d.ext c.ext o.ext F.ext I.ext U.ext yB (zRu I U (FineP.of_mem l6) (hP.ext E0)) fun vs w6 E0 d c o F I U q => ?_)))))))));subst q;refine K2 (zp rfl (pc0 rfl (rm [1,5,7,8,51] ?_)))
   refine wcf rfl (sk (rJ (K1 (j4 E0 d.ext c.ext o.ext F.ext yB (zNo o l2) fun vd w7 E0 d c o F q => ?_))));obtain ⟨ua,rfl,I⟩:=q;replace I:=I.poly;clear o;refine mv (xt rfl (xt rfl (ag (ag (rM 1826 ?_)))));refine rJ (K1 (j4 E0 d.ext c.ext F.ext I.ext yB (R.RLadder_ok (M:=fB 7981+1) F l4) fun ve w8 E0 d c F I q => ?_));obtain ⟨ub,a,b,e,hI,rfl,U⟩:=q;rw [l5 a b e hI] at U ⊢;clear F;refine mv (xt rfl (xt rfl (ag (ag (rM 7714 ?_)))));refine zA (rJ (mv (K1 (zC (v := .bool (false)) rfl rfl (sB (bne_self_eq_false _)) (mv (K7 (K7 (K2 (j4 E0 d.ext c.ext I.ext U.ext yB (zRu I U (FineP.of_mem l7) (hP.ext E0)) fun vs w9 E0 d c I U q => ?_)))))))));subst q;refine K2 (zp rfl (pc0 rfl (rm [1,5,70] ?_)));refine wcf rfl (sk (rj (mv ?_)));refine K1 (j2 E0 d.ext c.ext yB (zPT d (fun j hj=>by have:=Z j hj;omega) oM) fun vx0 w10 E0 d c q => ?_);obtain ⟨vx,vy,rfl,aj,ak⟩:=q;have o:=(aj.own oM).poly;have F:=ak.poly oM;refine mv (xt rfl (xt rfl (ag (ag (rM 416 ?_)))));refine rj (K1 (zGu (ix:=0) zLQ zRd rfl rfl dE (K1 (zD zCz rfl c rfl (K1 (zGu (ix:=1) zLQ zRd rfl rfl dE (K1 (zD zCz rfl c rfl ?_))))))));refine K1 (zi (cs:=[S t,S s]) Tryz.underlying22 info52' dE dE kR fun b8 w7 hb7 f hB7 hs => ?_)
   obtain ⟨E0,c,o,F⟩:=V3 f E0 c.ext o.ext F.ext;have V:=IsVs.two hB7;have htwo:∀ j,j<[t,s].length->([t,s].getD j []).length<1000000000:=fun j hj=>by
    match j,hj with
    | 0,_=>show t.length<_;omega
    | 1,_=>show s.length<_;omega
   refine K1 (j3 E0 c.ext o.ext F.ext yB (zPT V htwo sM) fun br bs E0 c o F q => ?_);obtain ⟨vu,vz,rfl,aM,aN⟩:=q;have qx:=zPv (zNQ ht40) (dE:133<=3000);have qy:=zPv (zNQ hs40) (dE:133<=3000);have hqt:=qt_mem Z;have hu:IsPoly _ vu [(zk t).1,(zk s).1]:=(aM.own (by simp [numsS])).poly;have G:R.IsPoly _ vz [(zk t).1,(zk s).1]:=aN.poly (by simp [numsS]);generalize (zk t).1=x at qx hu G;generalize (zk s).1=y at qy hu G;generalize numsS M=Q at hqt o F;obtain ⟨bt,cu,rfl,bu,X,bw⟩:=hu;obtain ⟨bx,cz,rfl,bz,C,bA⟩:=G;obtain ⟨px,cx,rfl,aO,al,aP⟩:=o;obtain ⟨py,cy,rfl,aQ,O,aR⟩:=F;have am:=hP.ext E0;refine mv (xt rfl (xt rfl (ag (ag (rM 24960 ?_)))));refine zA ?_;obtain ⟨SZ,an⟩:=E0.szE;have D:=E0.self;have hs0:=E0.size;have hzP0:=C;have hyP0:=O
   refine zAR (some 10) 12 [[14],[26],[1],[1],[26],[1],[1],[13,7,1],[1],[1],[3],[]] mixed kR fun K hK=>dM aL (dM aL (du (fun f m=>runs_pindex (l:=[x,y]) (ix:=0) (X.ext f) m.1 rfl sM eR) (dC (fun v w'=>IsNum w' v x) (fun f m=>runs_pload (l:=[x,y]) (i:=0) (X.ext f) sM m.1 fun _=>eX) (dM aL (du (fun f m=>runs_pindex (l:=[x,y]) (ix:=1) (X.ext f) m.1 rfl sM eR) (dC (fun v w'=>IsNum w' v y) (fun f m=>runs_pload (l:=[x,y]) (i:=1) (X.ext f) sM m.1 fun _=>eX) ?_))))));refine dcp (fun v w'=>∃ z,v = .tuple #[z,.int .i64 (ladN Q x y).2.2]/\NetIs w' z (ladN Q x y).1 (ladN Q x y).2.1) (fun _ _ _ _ o h=>(let ⟨z,e,G⟩:=h;⟨z,e,G.ext o.toExt⟩)) (fun σ wx f m=>zJ yB (CallK.eq3 m.1 rfl rfl (CallK.of_ret (Net_ok (al.ext f) aO aP m.2.1 m.2.2.1 hqt qx qy (am.ext f)) fun v w2 hX q=>⟨hX,q⟩)) rfl) ?_;refine dcp (fun v w'=>∃ z,v = .tuple #[z,.int .i64 (ladN Q x y).2.2]/\NetIs w' z (ladN Q x y).1 (ladN Q x y).2.1) (fun _ _ _ _ o h=>(let ⟨z,e,G⟩:=h;⟨z,e,G.ext o.toExt⟩)) (fun σ wx f m=>zAH ⟨Ext.refl _,m.1⟩) ?_;refine dC (fun v w'=>NetIs w' v (ladN Q x y).1 (ladN Q x y).2.1) (fun f m=>(let ⟨z,e,G⟩:=m.1;zCd e rfl ⟨Ext.refl _,G⟩)) ?_;refine du (u := .int .i64 (ladN Q x y).2.2) (fun f m=>(let ⟨z,e,G⟩:=m.1;zCd e rfl eR)) ?_
   refine dcp (fun v w'=>∃ b,v = .pointer (some ⟨b,0,none⟩)/\Blk w' b 82 [.int .i64 0,.slice none 0 0,.slice none 0 0]/\SZ<=b) (fun _ _ _ _ o h=>(let ⟨b,e,hB,hg⟩:=h;⟨b,e,hB.ext o.toExt,hg⟩)) (fun σ wx f m=>zR zLS fun b w2 U hY hB hs=>⟨hY,b,rfl,hB,(by rw [U,an];exact (D.trans f).size)⟩) ?_;refine zAJ (hK _ fun wq f => ?_);rintro _ rfl _ rfl v88 N88 v89 N89 _ rfl v91 N91 v92 N92 v93 N93 v85 N85 v94 N94 v95 N95 v15 N15;refine zY ?_;obtain ⟨E0,X,C,al,O,am,D⟩:=V6 f E0 X.ext C.ext al.ext O.ext am.ext D.ext;obtain ⟨gb,rfl,Y,aS⟩:=N15;obtain ⟨aa,ab,rfl,k⟩:=N94;refine K1 (zc zDa rfl Y rfl (cw rfl) dE rfl fun w9 hU B => ?_);have hE2:=D.upd hU oM;have hn14':=k.upd hU Y dE;replace E0:=E0.upd hU oM;replace B:Blk _ gb 82 [.int .i64 (ladN Q x y).1,.slice aa (ladN Q x y).2.1.length ab,.slice none 0 0]:=B;replace C:=hzP0.ext hE2;replace O:=hyP0.ext hE2;clear D hE2 hs0 k;have k:=hn14';obtain rfl:=N95;refine ag (zAh (zK (K5 [8,10,14,15] ?_)));refine zA ?_;obtain ⟨SZ,an⟩:=E0.szE;have D:=E0.self;have hs0:=E0.size;have hD10:=B;have hn140:=k
   refine zAR (some 10) 12 [[16],[28],[1],[1],[28],[1],[1],[13,7,1],[1],[1],[3],[]] mixed kR fun K hK=>dM aL (dM aL (du (fun f m=>R.runs_pindex (l:=[x,y]) (ix:=0) (C.ext f) m.1 rfl sM eR) (dC (fun v w'=>R.IsR w' v x) (fun f m=>R.runs_pload (l:=[x,y]) (i:=0) (C.ext f) sM m.1 fun _=>eX) (dM aL (du (fun f m=>R.runs_pindex (l:=[x,y]) (ix:=1) (C.ext f) m.1 rfl sM eR) (dC (fun v w'=>R.IsR w' v y) (fun f m=>R.runs_pload (l:=[x,y]) (i:=1) (C.ext f) sM m.1 fun _=>eX) ?_))))));refine dcp (fun v w'=>∃ z,v = .tuple #[z,.int .i64 (ladN Q x y).2.2]/\NetIs w' z (ladN Q x y).1 (ladN Q x y).2.1) (fun _ _ _ _ o h=>(let ⟨z,e,G⟩:=h;⟨z,e,G.ext o.toExt⟩)) (fun σ wx f m=>zJ yB (CallK.eq3 m.1 rfl rfl (CallK.of_ret (RNet_ok (O.ext f) aQ aR m.2.1 m.2.2.1 hqt qx qy) fun v w2 hX q=>⟨hX,q⟩)) rfl) ?_;refine dcp (fun v w'=>∃ z,v = .tuple #[z,.int .i64 (ladN Q x y).2.2]/\NetIs w' z (ladN Q x y).1 (ladN Q x y).2.1) (fun _ _ _ _ o h=>(let ⟨z,e,G⟩:=h;⟨z,e,G.ext o.toExt⟩)) (fun σ wx f m=>zAH ⟨Ext.refl _,m.1⟩) ?_;refine dC (fun v w'=>NetIs w' v (ladN Q x y).1 (ladN Q x y).2.1) (fun f m=>(let ⟨z,e,G⟩:=m.1;zCd e rfl ⟨Ext.refl _,G⟩)) ?_;refine du (u := .int .i64 (ladN Q x y).2.2) (fun f m=>(let ⟨z,e,G⟩:=m.1;zCd e rfl eR)) ?_
   refine dcp (fun v w'=>∃ b,v = .pointer (some ⟨b,0,none⟩)/\Blk w' b 82 [.int .i64 0,.slice none 0 0,.slice none 0 0]/\SZ<=b) (fun _ _ _ _ o h=>(let ⟨b,e,hB,hg⟩:=h;⟨b,e,hB.ext o.toExt,hg⟩)) (fun σ wx f m=>zR zLS fun b w2 U hY hB hs=>⟨hY,b,rfl,hB,(by rw [U,an];exact (D.trans f).size)⟩) ?_;refine zAJ (hK _ fun wq f => ?_);rintro _ rfl _ rfl v99 N99 v100 N100 _ rfl v102 N102 v103 N103 v104 N104 v96 N96 v105 N105 v106 N106 v16 N16;refine zY ?_;obtain ⟨E0,C,O,B,k,D⟩:=V5 f E0 C.ext O.ext B.ext k.ext D.ext;obtain ⟨gb,rfl,Y,aS⟩:=N16;obtain ⟨ad,ae,rfl,A⟩:=N105;refine K1 (zc zDa rfl Y rfl (cw rfl) dE rfl fun w9 hU hD2 => ?_);have hE2:=D.upd hU oM;have hn15':=A.upd hU Y dE;replace E0:=E0.upd hU oM;replace hD2:Blk _ gb 82 [.int .i64 (ladN Q x y).1,.slice ad (ladN Q x y).2.1.length ae,.slice none 0 0]:=hD2;replace B:=hD10.ext hE2;replace k:=hn140.ext hE2;clear A;have A:=hn15';obtain rfl:=N106;refine ag (zAh (zK (K5 [10,12,15,16] ?_)));refine rJ (mv (K1 (zC (v := .bool (true)) rfl rfl (sB (beq_self_eq_true _)) (mv (K2 (zh zCs rfl B (cw rfl) (K2 (zh zCs rfl hD2 (cw rfl) ?_))))))))
   refine K2 (j4 E0 B.ext k.ext hD2.ext A.ext yB (SameNet_ok (n:=(ladN Q x y).1) (es:=(ladN Q x y).2.1) ⟨aa,ab,rfl,k⟩ ⟨ad,ae,rfl,A⟩ (by have:=ladN_len Q x y;omega)) fun vs w12 E0 B k hD2 A q => ?_);subst q;refine pc0 rfl (mv (K2 (j4 E0 B.ext k.ext hD2.ext A.ext yB (zQG) fun va w13 E0 B k hD2 A q => ?_)));subst q;refine pc0 rfl (ag (rm [6] ?_));exact zE (en rfl E0 rfl)
end Go.Proofs.YtjiendlfobjanaaGreatDoor
