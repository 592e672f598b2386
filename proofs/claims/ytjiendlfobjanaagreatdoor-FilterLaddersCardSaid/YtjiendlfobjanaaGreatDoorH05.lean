/-
  A part of the proof: W49, W50, RNum, W51, W52, RList, W53, W54, W60, W61, Net, W68, Rev98, LawH, LawS, W56, W69, W57, W58, Pairs, W72, W73, RPoly, W62, W63, W64, W65, W78.
-/
import Derived.Test.YtjiendlfobjanaaGreatDoorH04
import Derived.Shelf.SlicesQ.Reverse
namespace Go.Proofs.YtjiendlfobjanaaGreatDoor.R
open Go Go.RowKit Go.Proofs Tryz
set_option maxRecDepth 10000
set_option maxHeartbeats 2000000
attribute [local irreducible] Runs WPE CallK Ret
variable {B a b c k m n nb t:Nat} {K:Value->World->Prop} {P:Program} {T T2 ty:TypeId} {af:Array Edge} {ds ys:List Nat} {g:Option (Nat×Bool)} {pos:String} {r:Option Nat} {w:World} {σ:Operand->Value}
def Fits (n:Nat):Prop:=n.log2<1000000000000
theorem log2_lt_mul {l:Nat} (h:n.log2<l) (z:c<=2^k):(n*c).log2<l+k:=by
 by_cases s:n*c=0
 . rw [s];simp;omega
 . have C:n≠0:=fun e=>s (by rw [e,gU]);rw [gd s,eM];rw [gd C] at h
   calc n*c<=n*2^k:=dy _ z
    _<2^l*2^k:=gg h (eq dE)
theorem Fits.fit (h:Fits n):Fit n:=fm h dE
theorem Fits.mul (h:Fits n) (e:c<=2^200):Fit (n*c):=fm (log2_lt_mul h e) dE
theorem Fits.le (h:Fits n) (e:m<=n):Fits m:=eN (zEh e) h
theorem Rd.cells {p:Option Addr} (h:Rd w p ds):Cells w p 2 (dv ds):=by
 by_cases C:ds=[]
 . subst C;exact .inl rfl
 . obtain ⟨b,o,cs,D,F,G⟩:=h 0 (eC.2 C);refine .inr ⟨b,o,cs,D,F,?_⟩;apply gw;intro i;rw [zAO];by_cases hi:i<ds.length
   . obtain ⟨H,I,cs',e,s,z⟩:=h i hi;rw [D] at e;cases e;obtain ⟨-,rfl⟩:=F.inj s;rw [fk,cD hi,fN,z,zDP _ _ hi]
   . rw [fk,ct hi];simp [dv,hi]
section laws
variable {d:Option Tmp}
theorem runs_imaxN {x y:Operand} (c:Nat) (z:σ x = .int .i64 (a:Int)) (C:σ y = .int .i64 (b:Int)) (h:max a b=c) (D:K (.int .i64 (c:Int)) w) :
 Runs P r ⟨d,.call { callee := .builtin .max,args := #[x,y],argTypes := #[T,T2] },ty,pos,af,g⟩ σ w K:=by
 refine zFd z C ?_;rw [show (if (a:Int)<(b:Int) then (b:Int) else (a:Int))=(c:Int) from by
  subst h;split<;>omega]
 exact D
theorem zIv {x y:Operand} (c:Nat) (C:σ x = .int .i64 (a:Int)) (D:σ y = .int .i64 (b:Int)) (h:min a b=c) (F:K (.int .i64 (c:Int)) w) :
 Runs P r ⟨d,.call { callee := .builtin .min,args := #[x,y],argTypes := #[T,T2] },ty,pos,af,g⟩ σ w K:=by
 refine zLG C D ((cW (fun z=>K (.int .i64 z) w) ?_).mpr F);subst h;split<;>omega
theorem runs_consR {x y:Operand} {sz:Nat} (G:σ x = .slice (some ⟨b,0,none⟩) 1 1) (H:Blk w b 2 [.int .i64 (a:Int)]) (s:sz<=b) (N:IsN w (σ y) n) (U:a<1073741824) (V:Fit n)
 (I:∀ v w',Ext w w'->(∃ p ds cap,v = .slice p ds.length cap/\ds.length<=cap/\ds.length<4611686018427387904/\Rd w' p ds/\Dig ds/\nat30 ds=a+1073741824*n/\∀ q,p=some q->sz<=q.block)->K v w') :
 Runs prog r ⟨d,.call { callee := .builtin .append,args := #[x,y],argTypes := #[48,48] },ty,pos,af,g⟩ σ w K:=by
 obtain ⟨p,ds,cap,J,h2,X,L,Y⟩:=N;subst Y;have hl:=L.fit V;have z:Blk w b 2 (dv [a]):=H;by_cases h0:ds=[]
 . subst h0;refine zEl zBV zBV info2 G J (cX _) ?_;refine I _ _ (Ext.refl _) ⟨_,[a],1,rfl,cX _,sM,Rd.of_blk z,by intro d h;simp at h;omega,by simp [nat30],fun q D=>by cases D;exact s⟩
 . have aa:0<ds.length:=eC.2 h0;have hnew:=zAc (1+ds.length) 1;refine zAW zBV zBV info2 rfl dE G J (Cells.blk z) (by simp [zAO]) X.cells (by simp [zAO]) oM oM fun w' rest Z g1 hE F g2 _ => ?_;refine I _ _ hE ⟨_,a :: ds,Z,by rw [et,iH],by rw [et];omega,by rw [et];omega,?_,?_,rfl,fun q D=>by cases D;exact dz s (eU H.lt)⟩
   . intro i M;refine ⟨_,0,_,rfl,F,?_⟩;rw [dW,eS (by simp [zAO] at M ⊢;omega)];exact zDP (a :: ds) i M
   . intro d h;rcases eY.1 h with rfl | h
     . exact U
     . exact L.1 d h
end laws
theorem top1 {R:List Nat} {l:Nat} (e:l<R.length):R.getD l 0*1073741824^l<=nat30 R:=by
 rw [zCb R l,dT (eU e),zBg e,dV,dm (R.getD l 0)];omega
theorem top2 {R:List Nat} {l:Nat} (e:l+1<R.length):(R.getD l 0+R.getD (l+1) 0*1073741824)*1073741824^l<=nat30 R:=by
 rw [zCb R l,dT oM,zBg oM,zBg e,dm _ (1073741824^l)];refine dz (dy _ ?_) (Nat.le_add_left _ _);omega
theorem topb {l:Nat} (e:Dig ys) (h:ys.length=l+1):nat30 ys<=(ys.getD l 0+1)*1073741824^l:=by
 rw [zCb ys l,dT oM,zBg oM,eJ oM,eF,eG,dm (ys.getD l 0)];have:=zDR _ (e.take l);rw [eW,dT oM] at this;simp only [nat30,fW,fw];omega
theorem est {r:Nat} (C:t*B<=r) (e:nb<=r) (s:nb<=(b+1)*B):max (t/(b+1)) 1*nb<=r:=by
 rcases Nat.le_total (t/(b+1)) 1 with h | h
 . rw [Nat.max_eq_right h,eG];exact e
 . rw [Nat.max_eq_left h];have z:=dy (t/(b+1)) s;rw [<- dt] at z;have e2:=dx B (Nat.div_mul_le_self t (b+1));omega
theorem quo_lt {q d r R:Nat} (h:q*nb+r=R) (e:d*nb<=r) (s:R<1073741824*nb):q+d<1073741824:=by
 have:(q+d)*nb<1073741824*nb:=by rw [eF];omega
 exact Nat.lt_of_mul_lt_mul_right this
theorem quo_next {q d r R:Nat} (h:q*nb+r=R) (e:d*nb<=r):(q+d)*nb+(r-nb*d)=R:=by
 rw [eF,dm nb d];omega
theorem quo_end {Q s r:Nat} (h:m*2^s=Q*(n*2^s)+r) (D:r<n*2^s):Q=m/n/\r/2^s=m%n:=by
 have e:0<2^s:=eq dE;have h1:Q*n<=m:=by
  rw [<- dt] at h;exact Nat.le_of_mul_le_mul_right (oM:Q*n*2^s<=m*2^s) e
 have z:r=(m-Q*n)*2^s:=by
  rw [Nat.sub_mul,h,<- dt];omega
 have C:m-Q*n<n:=Nat.lt_of_mul_lt_mul_right (a:=2^s) (by rw [<- z];exact D);have hn:0<n:=oM
 have F:m=n*Q+(m-Q*n):=by rw [dm n Q];omega
 rw [z,Nat.mul_div_cancel _ e];generalize m-Q*n=t at *;subst F;rw [Nat.mul_add_div hn,fE C,Nat.mul_add_mod,fL C];simp
theorem zDl {x y:Value} (V:IsN w x m) (Y:IsN w y n) (aw:Fits m) (L:Fits n) (bY:n≠0):Ret prog 247 #[x,y] w (fun v w'=>∃ q r,v = .tuple #[q,r]/\IsN w' q (m/n)/\IsN w' r (m%n)):=by
 obtain ⟨s,hs⟩:∃ s,(30-bitsN n%30)%30=s:=⟨_,rfl⟩;have hs30:s<30:=oM
 have aj:2^s<=2^200:=dw dE oM;have hp31:1073741824*2^s<=2^200:=by
  have:=dw (dE:0<2) (oM:30+s<=200);rw [eM] at this;exact this
 refine J0 98 func247 rfl (rj (ag (ag (rM 3 ?_))));refine zA (rJ (mv (K1 (j2 E0 V.ext Y.ext yB (zJp V Y aw.fit L.fit) fun vo w1 E0 V Y hr => ?_))));obtain ⟨c0,rfl,G⟩:=hr;refine K8 rfl (rM 65539 ?_);refine K0 rfl ?_ ?_<;>intro hc
 . have aM:m<n:=G.1.1 (dh hc);refine rJ (ag (ag (rM 51 ?_)));refine zE (zU (zM ?_));exact ⟨rfl,_,zv rfl rfl rfl,E0,_,_,rfl,IsN.nil (fE aM),by rw [fL aM];exact V⟩
 . have bZ:¬ m<n:=fun h=>de hc (G.1.2 h);refine sk (rJ (K1 (j2 E0 V.ext Y.ext yB (length_ok Y L.fit) fun vl w2 E0 V Y hr => ?_)));subst hr;refine K1 (zAE (b:=30) (bitsN n%30) rfl rfl dE rfl (K1 (zAL (a:=30) (30-bitsN n%30) rfl rfl oM dE (K1 (zAE (b:=30) (s) rfl rfl dE hs (ag (rM 67 ?_)))))));refine rJ (mv (K1 (j2 E0 V.ext Y.ext yB (zKf V aw.fit oM) fun vA w3 E0 V Y hA=>mv (mv (K1 (j3 E0 V.ext Y.ext hA.ext yB (zKf Y L.fit oM) fun vb w4 E0 V Y hA Z => ?_))))));obtain ⟨pA,A,cA,rfl,b0,F,aN,aO⟩:=hA;obtain ⟨pb,ys,cb,rfl,aP,C,M,N⟩:=Z;have hAl:=aN.fit (by rw [aO];exact aw.mul aj);have hyl:=M.fit (by rw [N];exact L.mul aj);have hfy:Fit (nat30 ys):=by rw [N];exact L.mul aj
   have am:0<nat30 ys:=by rw [N];exact Nat.mul_pos oM (eq dE)
   have aa:∀ r,r<=1073741824*nat30 ys->Fit r:=fun r hr=>Fit.le (n:=n*(1073741824*2^s)) (L.mul hp31) (by rw [N] at hr;grind);obtain ⟨l,hl⟩:∃ l,ys.length=l+1:=⟨ys.length-1,by
    have:ys≠[]:=fun e=>by rw [e] at am;exact absurd am dE
    have:=eC.2 this;omega⟩
   refine ag (ag (rM 67 ?_));refine rJ (K1 (zG zu rfl (ag (rM 195 ?_))));refine rJ (K1 (zG zu rfl ?_));refine K1 (zAK zBV info2 rfl rfl rfl oM oM oM fun b w1 Z hE D hs => ?_);have hgb:w.heap.size<=b:=by rw [Z];exact E0.size
   have be:=F.ne (dS Z.symm);have hnb:=C.ne (dS Z.symm);obtain ⟨E0,F,C⟩:=V2 hE E0 F.ext C.ext;rw [show ((A.length:Nat):Int).toNat=A.length from by omega,show (Value.int IntKind.i64 0).cells.toList=[Value.int IntKind.i64 0] from rfl,zAp] at D;refine ag (rM 451 ?_);refine rj (ag (rM 963 ?_));refine zA (rJ (K1 (zG zu rfl (K8 rfl (ag (rM 1987 ?_))))));refine zF ?_;refine zX (X:=Nat) (fun k ρ w'=>∃ vr r Q,Keep ρ [(0,.slice pA A.length cA),(1,.slice pb ys.length cb),(6,.int .i64 (s:Nat)),(7,.int .i64 (ys.length:Nat)),(8,.slice (some ⟨b,0,none⟩) A.length A.length),(9,vr),(10,.int .i64 (((k:Nat):Int)-1))]/\k<=A.length/\Q.length=A.length/\Dig Q/\(∀ j,j<k->Q.getD j 0=0)/\nat30 (A.drop k)=nat30 (Q.drop k)*nat30 ys+r/\r<nat30 ys/\IsF (b+1) w' vr r/\Ext w w'/\Rd w' pA A/\Rd w' pb ys/\Blk w' b 2 (dv Q)) (fun k=>k) A.length ⟨.slice none 0 0,0,List.replicate A.length 0,⟨rfl,rfl,rfl,rfl,rfl,rfl,rfl,rfl,rfl,rfl,rfl,rfl,rfl,cW (Value.int .i64) (zm oM oM),trivial⟩,cX _,sM,zCK _,fun j _=>zFS _ _,by rw [eO,eJ sM];simp [nat30],am,IsF.nil,E0,F,C,D⟩ ?_;rintro k bf w1 ⟨vr,r,Q,hk,ar,ad,ae,ah,an,I,z,E0,F,C,D⟩;refine wpe_k _ hk ?_;refine zA (zA ?_);rcases k with _ | k
   . skip
     refine rI (K8 rfl (rS 274877908931 ?_));refine wcf rfl (zT (zt (zf (zI (zK (rJ (K1 (j4 E0 F.ext C.ext D.ext z.ext yB (zGK ad (cX _) (Rd.of_blk D) ae oM) fun vq w5 E0 F C D z hq=>mv (mv (K1 (j5 E0 F.ext C.ext D.ext z.ext hq.ext yB (zJs z.isN (aa r oM) oM) fun vm w6 E0 F C D z hq hm=>ag (ag (rM 1523 ?_)))))))))))));refine zE (zM ?_);simp only [eT] at an;rw [aO,N] at an;rw [N] at I;obtain ⟨e1,e2⟩:=quo_end an I;rw [e1] at hq;rw [e2] at hm;exact ⟨rfl,_,zv rfl rfl rfl,E0,_,_,rfl,hq,hm⟩
   . obtain ⟨b1,o1,au,aU,bg,bh⟩:=F k oM;have hk0:decide ((((k+1:Nat):Int)-1)≥0)=true:=by simp only [eA];omega
     have av:(((k+1:Nat):Int)-1).toNat=k:=oM
     have bi:((k+1:Nat):Int)-1=(k:Int):=oM
     have aV:=aN.1.getD k;rw [bi];refine rI (K8 rfl (rS 274877908931 ?_));refine wct (cW Value.bool (cZ (oM:(k:Int)≥0))) (sk (zA (zF (rJ (mv (K1 (zH (b:=b1) (o:=o1) zu (cW (fun p=>Value.slice p A.length cA) aU) rfl oM oM (K1 (zD zBq rfl bg (by simpa using bh) ?_)))))))));refine K1 (zi (cs:=[.int .i64 ((A.getD k 0:Nat):Int)]) zBV info2' dE dE kR fun b2 w2 hb2 hE hB2 hs => ?_);have hbb2:b+1<=b2:=by have:=D.lt;omega
     obtain ⟨E0,F,C,D,z⟩:=V4 hE E0 F.ext C.ext D.ext z.ext;refine mv (K1 (runs_consR rfl hB2 hbb2 z.isN aV (aa r oM) fun v w3 hE hv => ?_));obtain ⟨p3,aC,bH,rfl,bj,bk,aW,bm,bo,ax⟩:=hv;obtain ⟨E0,F,C,D,z⟩:=V4 hE E0 F.ext C.ext D.ext z.ext;refine K1 (j4 E0 F.ext C.ext D.ext z.ext yB (zSJ rfl bj aW bm bk ax) fun ay w5 E0 F C D z az => ?_);rw [bo] at az;refine ag (rM 1987 ?_);refine zF ?_;obtain ⟨R0,aQ⟩:∃ R0,A.getD k 0+1073741824*r=R0:=⟨_,rfl⟩;have hAk:A.getD k 0+1073741824*nat30 (A.drop (k+1))=1073741824*(nat30 (Q.drop (k+1))*nat30 ys)+R0:=by rw [an,<- aQ];omega
     have aX:R0<1073741824*nat30 ys:=oM
     obtain ⟨Qh,ap⟩:∃ Qh,nat30 (Q.drop (k+1))=Qh:=⟨_,rfl⟩;rw [ap] at hAk;rw [aQ] at az;refine zX (X:=Nat) (fun r ρ w'=>∃ vr Q,Keep ρ [(0,.slice pA A.length cA),(1,.slice pb ys.length cb),(6,.int .i64 (s:Nat)),(7,.int .i64 (ys.length:Nat)),(8,.slice (some ⟨b,0,none⟩) A.length A.length),(9,vr),(10,.int .i64 ((k:Nat):Int))]/\Q.length=A.length/\Dig Q/\(∀ j,j<k->Q.getD j 0=0)/\nat30 (Q.drop (k+1))=Qh/\Q.getD k 0*nat30 ys+r=R0/\IsF (b+1) w' vr r/\Ext w w'/\Rd w' pA A/\Rd w' pb ys/\Blk w' b 2 (dv Q)) (fun r=>r) R0 ⟨ay,Q,(kp rfl),ad,ae,fun j hj=>ah j oM,ap,by rw [ah k oM];omega,az,E0,F,C,D⟩ ?_
     try clear Q
     rintro U bf w4 ⟨ay,Q,hk,ad,ae,ah,aR,aA,z,E0,F,C,D⟩;refine wpe_k _ hk ?_;refine zA (rJ (mv (K1 (j4 E0 F.ext C.ext D.ext z.ext yB (zJp z.isN ⟨pb,ys,cb,rfl,aP,C,M,rfl⟩ (aa U oM) hfy) fun vo w4b E0 F C D z hr => ?_))));obtain ⟨c1,rfl,G⟩:=hr;refine K8 rfl (rM 4503599627372483 ?_);refine K0 rfl ?_ ?_<;>intro hc
     . have aY:nat30 ys<=U:=by
        have:=dh hc;rcases dR U (nat30 ys) with h | h
        . have:=G.1.2 h;omega
        . exact h
       obtain ⟨pr,R,cr,rfl,bp,aB,ai,ao,bq⟩:=z;have aS:l<R.length:=by
        rcases dR l R.length with h | h
        . exact h
        . have:=Norm.len_lt ai.1 M oM;omega
       have b6:IntKind.i64.wrap ((((ys.length:Nat):Nat):Int)-1)=(l:Int):=by rw [zm oM oM];omega
       have b7:=ai.fit (by rw [ao];exact aa U oM);obtain ⟨b3,o3,b8,ax,br,bs⟩:=aB l aS;have bt:=ai.1.getD l;refine sk (zF (rJ (mv (K1 (zAL (b:=1) (l) rfl rfl oM oM (K1 (zH (b:=b3) (o:=o3) zu (cW (fun p=>Value.slice p R.length cr) ax) rfl oM oM (K1 (zD zBq rfl br (by simpa using bs) (ag (rM 4035 ?_)))))))))));refine zBZ (fun ρ w'=>∃ top:Nat,Keep ρ [(0,.slice pA A.length cA),(1,.slice pb ys.length cb),(6,.int .i64 (s:Nat)),(7,.int .i64 (ys.length:Nat)),(8,.slice (some ⟨b,0,none⟩) A.length A.length),(9,.slice pr R.length cr),(10,.int .i64 ((k:Nat):Int)),(11,.int .i64 (top:Nat))]/\w4b=w'/\top*1073741824^l<=U/\top<1152921504606846976) ?_ ?_
       . refine rJ (K1 (zG zu rfl (mv (K8 rfl (rm [0,1,6,7,8,9,10,11,61] ?_)))));refine K0 rfl ?_ ?_<;>intro hc
         . have aq:l+1<R.length:=by have:=t_lt hc;omega
           obtain ⟨b4,o4,b9,bu,bw,bx⟩:=aB (l+1) aq;have hdl1:=ai.1.getD (l+1);have ak:(R.getD l 0+R.getD (l+1) 0*1073741824)*1073741824^l<=U:=by rw [<- ao];exact top2 aq
           have al:R.getD l 0+R.getD (l+1) 0*1073741824<1152921504606846976:=oM
           refine rI (mv (mv (K1 (zH (b:=b4) (o:=o4) zu (cW (fun p=>Value.slice p R.length cr) bu) rfl oM oM ?_))));refine K1 (zD zBq rfl bw (by rw [show ((ys.length:Nat):Int).toNat*1=l+1 from by omega];exact bx) ?_);exact K1 (zBw (b:=1073741824) (R.getD (l+1) 0*1073741824) rfl rfl rfl oM (K1 (zg (R.getD l 0+R.getD (l+1) 0*1073741824) rfl rfl rfl oM (ag (rl (zL ⟨rfl,_,(kp rfl),rfl,ak,al⟩))))))
         . refine zw (zL ?_);exact ⟨rfl,_,(kp rfl),rfl,by rw [<- ao];exact top1 aS,is bt dE⟩
       . rintro ca w2 ⟨top,hk,rfl,ak,al⟩;refine wpe_k _ hk ?_;obtain ⟨b5,o5,aD,bz,bA,bB⟩:=C l oM;have hdy:=M.1.getD l;have J:=est ak aY (topb M.1 hl);have aZ:=quo_lt aA J aX;have hdlt:max (top/(ys.getD l 0+1)) 1<1152921504606846976:=by
          have:=fg top (ys.getD l 0+1);omega
         refine rJ (mv (mv (K1 (zAL (b:=1) (l) rfl rfl oM oM (K1 (zH (b:=b5) (o:=o5) zu (cW (fun p=>Value.slice p ys.length cb) bz) rfl oM oM (K1 (zD zBq rfl bA (by simpa using bB) (K1 (zg (b:=1) (ys.getD l 0+1) rfl rfl rfl oM ?_))))))))));refine K1 (zAn (top/(ys.getD l 0+1)) rfl rfl oM rfl (by have:=fg top (ys.getD l 0+1);omega) ?_);refine K1 (runs_imaxN (b:=1) (max (top/(ys.getD l 0+1)) 1) rfl rfl rfl (ag (rM 6083 ?_)));refine rJ (mv (mv (mv (K1 (zH (b:=b) (o:=0) zu rfl rfl oM oM ?_)))));refine K1 (zD zBq rfl D (by rw [show 0+((k:Nat):Int).toNat*1=k from by omega];exact zDP Q k oM) ?_);refine mv (K1 (zg (Q.getD k 0+max (top/(ys.getD l 0+1)) 1) rfl rfl rfl oM (K1 (zH (b:=b) (o:=0) zu rfl rfl oM oM ?_))));refine K1 (zc size2 rfl D rfl (by rw [show 0+((k:Nat):Int).toNat*1=k from by omega,zAO];omega) dE rfl fun w5 hU hN => ?_);have hblt:=D.lt;have H:IsF (b+1) w5 (.slice pr R.length cr) U:=IsF.upd ⟨pr,R,cr,rfl,bp,aB,ai,ao,bq⟩ hU oM;replace E0:=E0.upd hU hgb;replace F:=F.upd' hU be;replace C:=C.upd' hU hnb;replace D:=zAq (i:=k) hN oM;refine rM 6083 ?_
         refine rI (mv (mv (K1 (j4 E0 F.ext C.ext D.ext H.ext yB (zEw hdlt) fun vd w7 E0 F C D H hd=>K1 (j5 E0 F.ext C.ext D.ext H.ext hd.ext yB (zCX ⟨pb,ys,cb,rfl,aP,C,M,rfl⟩ hd hfy (Fits.fit (eN (zEh (eU hdlt)) dK))) fun vt w8 E0 F C D H hd ht => ?_)))));have a0:=D.lt;refine K1 (j6 E0 F.ext C.ext D.ext H.ext hd.ext ht.ext yB (zOY H.isN ht (aa U oM) (by rw [dm];exact J)) fun vm w9 E0 F C D H hd ht bC => ?_);refine ag (rl (zN (zL ?_)));refine ⟨rfl,U-nat30 ys*max (top/(ys.getD l 0+1)) 1,⟨_,_,(kp rfl),by rw [ff];exact ad,ae.set _ aZ,fun j hj=>(getD_set_ne oM).trans (ah j hj),by rw [List.drop_set_of_lt oM];exact aR,by rw [zBo oM];exact quo_next aA J,bC.mono a0,E0,F,C,D⟩,?_⟩;have h1:1*1<=nat30 ys*max (top/(ys.getD l 0+1)) 1:=fs am (Nat.le_max_right _ _);rw [dm] at J;omega
     . have I:U<nat30 ys:=by
        have:=de hc;rcases dR U (nat30 ys) with h | h
        . exact h
        . exfalso;have h1:=G.1;have h2:=G.2;omega
       refine zT (zt (zf (zI (zN (zK (rI (K8 rfl (ag (rl (zL (⟨rfl,k,⟨ay,U,Q,⟨rfl,rfl,rfl,rfl,rfl,rfl,rfl,rfl,rfl,rfl,rfl,rfl,rfl,cW (Value.int .i64) (zm oM oM),trivial⟩,oM,ad,ae,ah,?_,I,z,E0,F,C,D⟩,oM⟩)))))))))));rw [zBg (oM:k<A.length),zBg (oM:k<Q.length),aR,hAk];have e:=aA;rw [eF];generalize Q.getD k 0*nat30 ys=u at *;have e3:1073741824*Qh*nat30 ys=1073741824*(Qh*nat30 ys):=dt _ _ _;omega
variable {i:Nat} {v:Value}
theorem IsN.shape (h:IsN w v n):∃ p l cap,v = .slice p l cap/\(l=0->n=0)/\(n=0->l=0)/\(l<=2->n<1152921504606846976):=by
 obtain ⟨p,ds,cap,s,C,D,e,z⟩:=h;subst z;refine ⟨p,ds.length,cap,s,fun h=>by rw [ef h];rfl,fun h=>by rw [e.zero.1 h];rfl,fun h => ?_⟩;have:=zDR _ e.1;have:=dw (dE:0<1073741824) h;omega
theorem z_lt {z:Nat} (e:n≠0) (h:2^z∣n) (s:Fits n):z<1000000000000:=by
 have C:=Nat.le_of_dvd oM h;have h2:=(Nat.le_log2 e).2 C;exact eN h2 s
theorem co2 (e:b%2=1) (z:Nat):Nat.Coprime (2^z) b:=by
 apply Nat.Coprime.pow_left;show Nat.gcd 2 b=1;rw [Nat.gcd_rec,e];decide
theorem gcd_odd {z:Nat} (e:b%2=1) (h:2^z∣a):Nat.gcd (a/2^z) b=Nat.gcd a b:=by
 obtain ⟨q,rfl⟩:=h;rw [ik _ (eq dE),Nat.Coprime.gcd_mul_left_cancel _ (co2 e z)]
theorem gcd_round {z:Nat} (h:b%2=1) (e:b<=a) (s:2^z∣a-b):Nat.gcd ((a-b)/2^z) b=Nat.gcd a b:=by
 rw [gcd_odd h s];exact Nat.gcd_sub_self_left e
theorem gcd_pow (e:a%2=1) (s:b%2=1):Nat.gcd (2^i*a) (2^k*b)=Nat.gcd a b*2^min i k:=by
 rcases Nat.le_total i k with h | h
 . obtain ⟨d,rfl⟩:=Nat.le.dest h;rw [dT h,eM,dt,Nat.gcd_mul_left,gx a,Nat.Coprime.gcd_mul_left_cancel _ (co2 e d),gx b,dm]
 . obtain ⟨d,rfl⟩:=Nat.le.dest h;rw [Nat.min_eq_right h,eM,dt,Nat.gcd_mul_left,Nat.Coprime.gcd_mul_left_cancel _ (co2 s d),dm]
theorem gcd_start (s:2^i∣m%n) (z:2^k∣n) (e:m%n/2^i%2=1) (h:n/2^k%2=1):Nat.gcd (m%n/2^i) (n/2^k)*2^min i k=Nat.gcd m n:=by
 rw [<- gcd_pow e h,Nat.mul_div_cancel' s,Nat.mul_div_cancel' z,gx m n,Nat.gcd_rec n m]
theorem zFO {x y:Value} (V:IsN w x m) (L:IsN w y n) (av:Fits m) (Z:Fits n) (am:n≠0):Ret prog 164 #[x,y] w (fun v w'=>IsN w' v (Nat.gcd m n)):=by
 have ad:Fits (m%n):=av.le (Nat.mod_le _ _);refine J0 75 func164 rfl (rj (ag (rM 3 ?_)));refine rJ (mv (K1 (j2 E0 V.ext L.ext yB (zDl V L av Z am) fun vd w1 E0 V L hr => ?_)));obtain ⟨q1,v1,rfl,-,Y⟩:=hr;refine mv (xt rfl (xt rfl (ag (rM 3 ?_))));refine zA (rj ?_);intro _;obtain ⟨pa,la,ca,rfl,aK,aM,-⟩:=Y.shape;refine mv (K1 (zG zu rfl (K8 rfl (rM 262147 ?_))));refine K0 rfl ?_ ?_<;>intro I
 . have h0:m%n=0:=aK (t_beq (b:=0) I);refine rJ (ag (rM 19 ?_));refine zE (zU (en rfl E0 ?_));rw [gx,Nat.gcd_rec,h0,Nat.gcd_zero_left];exact L
 . have h0:m%n≠0:=fun e=>f_beq (b:=0) I (aM e);refine sk (rJ (K1 (j3 E0 V.ext L.ext Y.ext yB (zNi Y ad.fit h0) fun vi w2 E0 V L Y hr => ?_)));obtain ⟨i,rfl,aw,ax⟩:=hr;refine mv (K1 (j3 E0 V.ext L.ext Y.ext yB (zNi L Z.fit am) fun vk w3 E0 V L Y hr => ?_));obtain ⟨k,rfl,ay,az⟩:=hr;have hil:=z_lt h0 aw ad;have hkl:=z_lt am ay Z;refine ag (ag (rM 99 ?_));refine rJ (mv (K1 (j3 E0 V.ext L.ext Y.ext yB (zJs Y ad.fit oM) fun va w4 E0 V L Y C=>mv (mv (K1 (j4 E0 V.ext L.ext Y.ext C.ext yB (zJs L Z.fit oM) fun vb w5 E0 V L Y C H=>ag (ag (rM 99 ?_))))))));refine zA (zF ?_);obtain ⟨g,hg⟩:∃ g,Nat.gcd (m%n/2^i) (n/2^k)=g:=⟨_,rfl⟩;have hgm:=gcd_start aw ay ax az;rw [hg] at hgm;refine zX (X:=Nat×Nat) (fun p ρ w'=>∃ va vb,Keep ρ [(0,va),(1,vb),(5,.int .i64 (i:Nat)),(6,.int .i64 (k:Nat))]/\IsN w' va p.1/\IsN w' vb p.2/\p.1%2=1/\p.2%2=1/\Nat.gcd p.1 p.2=g/\Fits p.1/\Fits p.2/\Ext w w') (fun p=>p.1+p.2) (m%n/2^i,n/2^k) ⟨va,vb,(kp rfl),C,H,ax,az,hg,ad.le (fg _ _),Z.le (fg _ _),E0⟩ ?_;rintro ⟨a,b⟩ an w1 ⟨va,vb,hk,C,H,ao,ap,s,F,M,E0⟩;simp only at C H ao ap s F M;obtain ⟨pa,la,ca,rfl,-,-,aN⟩:=C.shape;obtain ⟨pb,lb,cb,rfl,-,-,aO⟩:=H.shape;refine wpe_k _ hk ?_
   refine zBZ (fun ρ w'=>Keep ρ [(0,.slice pa la ca),(1,.slice pb lb cb),(5,.int .i64 (i:Nat)),(6,.int .i64 (k:Nat))]/\w1=w') ?_ ?_
   . refine zA ?_;by_cases aZ:2<la
     . have hd:decide (((la:Nat):Int)>2)=true:=cZ oM;have hgd:(decide (((la:Nat):Int)>2)==false)=false:=by rw [hd];rfl
       refine rI (K1 (zG zu rfl (K8 rfl (mv (zCq hgd (zCq hgd (zCq hgd (pc0 (b:=true) (cW Value.bool hd) (rS 257698037859 ?_)))))))));exact wct rfl (zw (zL ⟨rfl,(kp rfl),rfl⟩))
     . have hd:decide (((la:Nat):Int)>2)=false:=cU oM;have hgd:(decide (((la:Nat):Int)>2)==false)=true:=by rw [hd];rfl
       refine rI (K1 (zG zu rfl (K8 rfl (mv (sr_g hgd (zAH (sr_g hgd (zG zu rfl (sr_g hgd (zC rfl rfl rfl (pc0 (b:=false) (cW Value.bool hd) (rS 257698037859 ?_))))))))))));refine K0 rfl ?_ ?_<;>intro I
       . exact zw (zL ⟨rfl,(kp rfl),rfl⟩)
       . have a0:¬ 2<lb:=fun h=>de I (by show ((lb:Nat):Int)>2;omega);have aA:=aN oM;have aB:=aO oM;refine zT (zf (zf (zI (zK (rJ (K1 (j2 E0 C.ext H.ext yB (zRY C aA) fun vx w6 E0 C H hr => ?_)))))));subst hr;refine mv (K1 (j2 E0 C.ext H.ext yB (zRY H aB) fun vy w7 E0 C H hr => ?_));subst hr;refine ag (ag (rM 867 ?_));refine zA (zF (zX (X:=Nat×Nat) (fun p ρ w'=>Keep ρ [(5,.int .i64 (i:Nat)),(6,.int .i64 (k:Nat)),(8,.int .i64 (p.1:Nat)),(9,.int .i64 (p.2:Nat))]/\Nat.gcd p.1 p.2=g/\p.1<1152921504606846976/\p.2<1152921504606846976/\Ext w w') (fun p=>p.2) (a,b) ⟨(kp rfl),s,aA,aB,E0⟩ ?_));rintro ⟨x,y⟩ an w3 ⟨hk,N,aq,aC,E0⟩;simp only at hk N aq aC;refine wpe_k _ hk ?_;refine zA (rJ (K8 rfl (rm [5,6,8,9,64] ?_)));refine K0 rfl ?_ ?_<;>intro I
         . have ar:y≠0:=t_bne (b:=0) I;refine sk (zF (zBx 6 mixed kR fun K hK=>qM (qM (qM (qS (fun hE=>zAE (x%y) rfl rfl ar rfl eQ) (qS (fun hE=>zr eQ) (qS (fun hE=>zr eQ) (hK _ fun wq hE=>zAh ?_))))))));replace E0:=E0.trans hE;refine zN (zL ?_);exact ⟨rfl,(y,x%y),⟨(kp rfl),by rw [<- N];exact zJl x y,aC,by have:=eE x (oM:y>0);simp only;omega,E0⟩,eE _ oM⟩
         . have ar:y=0:=f_bne (b:=0) I;subst ar;rw [Nat.gcd_zero_right] at N;refine zT (zt (zf (zI (zK (rJ (K1 (j0 E0 yB (zEw aq) fun vs w8 E0 hs=>mv (mv (K1 (zIv (min i k) rfl rfl rfl (K1 (j1 E0 hs.ext yB (zKf hs (Fits.fit (eN (zEh (eU aq)) dK)) oM) fun vl w9 E0 hs hr=>ag (rM 880 ?_)))))))))))));refine zE (en rfl E0 ?_);rw [N,hgm] at hr;exact hr
   . rintro an w1 ⟨hk,rfl⟩;refine wpe_k _ hk ?_;refine zF (rJ (mv (K1 (j2 E0 C.ext H.ext yB (zJp C H F.fit M.fit) fun vo w2 E0 C H hr => ?_))));obtain ⟨c,rfl,U⟩:=hr;refine ag (rM 227 ?_);refine zA (rJ (K8 rfl (rm [0,1,5,6,7,42] ?_)));refine K0 rfl ?_ ?_<;>intro I
     . have aD:a=b:=U.2.1 (by rw [ge] at I;exact I);subst aD;rw [Nat.gcd_self] at s;refine rJ (mv (mv (K1 (zIv (min i k) rfl rfl rfl (K1 (j2 E0 C.ext H.ext yB (zKf C F.fit oM) fun vl w7 E0 C H hr=>ag (rM 115 ?_)))))));refine zE (zU (zd (zAP (zd (zU (en rfl E0 ?_))))));rw [s,hgm] at hr;exact hr
     . have aD:a≠b:=fun e=>by
        have h1:=U.2.2 e;rw [h1] at I;cases I
       refine sk (zBZ (fun ρ w'=>∃ a2 b2 va vb,Keep ρ [(0,va),(1,vb),(5,.int .i64 (i:Nat)),(6,.int .i64 (k:Nat))]/\w2=w'/\IsN w2 va a2/\IsN w2 vb b2/\a2%2=1/\b2%2=1/\Nat.gcd a2 b2=g/\Fits a2/\Fits b2/\b2<a2/\a2+b2=a+b) ?_ ?_)
       . refine rJ (K8 rfl (rm [0,1,5,6,49] ?_));refine K0 rfl ?_ ?_<;>intro I
         . have aP:a<b:=U.1.1 (dh I);refine rI (mv (ag (ag (rl (zL ?_)))));exact ⟨rfl,b,a,_,_,(kp rfl),rfl,H,C,ap,ao,by rw [gx];exact s,M,F,oM,iH _ _⟩
         . have aP:¬ a<b:=fun h=>de I (U.1.2 h);exact zw (zL ⟨rfl,a,b,_,_,(kp rfl),rfl,C,H,ao,ap,s,F,M,oM,rfl⟩)
       . rintro an w3 ⟨a2,b2,be,bf,hk,rfl,J,D,a9,aj,aQ,G,aF,aG,aS⟩;refine wpe_k _ hk ?_;refine rJ (mv (K1 (j2 E0 J.ext D.ext yB (zNB J D G.fit (eU aG)) fun vm w7 E0 J D hm=>ag (rM 99 ?_))));refine rI (mv (K1 (j3 E0 J.ext D.ext hm.ext yB (zNi hm (G.le (iL _ _)).fit oM) fun vz w8 E0 J D hm hr => ?_)));obtain ⟨z,rfl,aE,aR⟩:=hr;have hzl:=z_lt oM aE (G.le (iL _ _));refine K1 (j3 E0 J.ext D.ext hm.ext yB (zJs hm (G.le (iL _ _)).fit oM) fun vq w9 E0 J D hm hq=>ag (rl (zN (zL ?_))));refine ⟨rfl,((a2-b2)/2^z,b2),⟨_,_,(kp rfl),hq,D,aR,aj,by rw [<- aQ];exact gcd_round aj oM aE,G.le (dz (fg _ _) (iL _ _)),aF,E0⟩,?_⟩;have h1:=fg (a2-b2) (2^z);simp only;omega
end Go.Proofs.YtjiendlfobjanaaGreatDoor.R
namespace Go.Proofs.YtjiendlfobjanaaGreatDoor.R
open Go Go.RowKit Go.Proofs Tryz
attribute [local irreducible] Runs WPE CallK Ret
variable {K:Value->World->Prop} {T ty:TypeId} {a b n:Nat} {af:Array Edge} {cs:List Value} {g:Option (Nat×Bool)} {pos:String} {r:Option Nat} {u v:Value} {w w':World} {σ:Operand->Value}
def IsR (w:World) (v:Value) (q:Rat):Prop :=
 ∃ t b,v = .agg #[.int .i64 q.num.sign,t,b]/\IsN w t q.num.natAbs/\IsN w b (if q=0 then 0 else q.den)
theorem IsR.ext {q:Rat} (h:IsR w v q) (e:Ext w w'):IsR w' v q:=by
 obtain ⟨t,b,s,z,C⟩:=h;exact ⟨t,b,s,z.ext e,C.ext e⟩
theorem IsR.upd {q:Rat} (h:IsR w v q) (e:Upd b w w') (s:Blk w b T cs) (z:T≠2):IsR w' v q:=by
 obtain ⟨n,d,C,D,F⟩:=h;exact ⟨n,d,C,D.upd e s z,F.upd e s z⟩
theorem IsR.extS {S:List Nat} {q:Rat} (h:IsR w v q) (e:ExtS S w w') (s:NoR S w):IsR w' v q:=by
 obtain ⟨n,d,z,C,D⟩:=h;exact ⟨n,d,z,C.extS e s,D.extS e s⟩
theorem IsN.of_eq (h:v=u) (e:IsN w u n):IsN w v n:=h ▸ e
theorem IsR.zero:IsR w (.agg #[.int .i64 0,.slice none 0 0,.slice none 0 0]) 0:=⟨_,_,rfl,IsN.nil rfl,IsN.nil rfl⟩
theorem zRK {s:Bool} (C:a≠0) (h:b≠0):(qOf s a b).num.sign=if s then -1 else 1:=by
 have z:=zPu (s:=s) C h;have h2:=zIo (s:=s) (a:=a) h;have h3:0<a/Nat.gcd a b:=Nat.div_pos (Nat.gcd_le_left _ oM) (Nat.gcd_pos_of_pos_left _ oM);have h4:(qOf s a b<0)↔(qOf s a b).num<0:=zCE _;cases s
 . have e:¬ qOf false a b<0:=de z;rw [h4] at e;simp only [ew,fY];rw [Int.sign_eq_one_iff_pos];omega
 . have e:qOf true a b<0:=dh z;rw [h4] at e;simp only [ga];rw [Int.sign_eq_neg_one_iff_neg];exact e
theorem qOf_ne {s:Bool} (z:a≠0) (C:b≠0):qOf s a b≠0:=fun e=>by
 have h:=zRK (s:=s) z C;rw [e] at h;cases s<;>cases h
theorem IsR.mk' {s:Bool} {n d:Value} (h:a≠0) (e:b≠0) (z:IsN w n (a/Nat.gcd a b)) (C:IsN w d (b/Nat.gcd a b)):IsR w (.agg #[.int .i64 (if s then -1 else 1),n,d]) (qOf s a b) :=
 ⟨n,d,by rw [zRK h e],by rw [zIo e];exact z,by rw [ct (qOf_ne h e),zLB e];exact C⟩
theorem zGB:(prog.info? 50).map (·.size)=some 3:=kR
theorem zero50:(prog.info? 50).bind (·.zero)=some (.agg #[.int .i64 0,.slice none 0 0,.slice none 0 0]):=kR
theorem zAS:Aggr prog 50 3:=by unfold Aggr;exact ⟨kR,kR⟩
theorem zBL:zAG prog 50 0 0:=by unfold zAG;kernel_rfl
theorem zEf:zAG prog 50 1 1:=by unfold zAG;kernel_rfl
theorem zCL:zAG prog 50 2 2:=by unfold zAG;kernel_rfl
def Cell3 (b:Nat) (w:World):Prop:=∃ cs,Blk w b 50 cs/\cs.length=3
def RAt (b:Nat) (q:Rat) (w:World):Prop:=∃ cs,Blk w b 50 cs/\cs.length=3/\IsR w (.agg cs.toArray) q
theorem Cell3.of (e:Blk w b 50 cs) (h:cs.length=3):Cell3 b w:=⟨cs,e,h⟩
theorem RAt.ext {q:Rat} (h:RAt b q w) (e:Ext w w'):RAt b q w':=by
 obtain ⟨cs,s,z,C⟩:=h;exact ⟨cs,s.ext e,z,C.ext e⟩
theorem runs_rstoreK {d:Option Tmp} {x y:Operand} {q:Rat} (D:σ x = .pointer (some ⟨b,0,none⟩)) (h:IsR w (σ y) q) (F:Cell3 b w)
 (G:∀ v w',Upd b w w'->RAt b q w'->K v w'):Runs prog r ⟨d,.store 50 x y,ty,pos,af,g⟩ σ w K:=by
 obtain ⟨cs,s,H⟩:=F;have e:=h;obtain ⟨n,N,he,I,J⟩:=h;obtain ⟨U,L,V,rfl,-⟩:=I;obtain ⟨X,M,Y,rfl,-⟩:=J;refine zc zGB D s (by rw [he];rfl) oM dE (by rw [he];rfl) fun w' z C => ?_;rw [he] at C e
 match cs,H with
 | [a,Z,c],_=>exact G _ _ z ⟨_,C,rfl,e.upd z s dE⟩
end Go.Proofs.YtjiendlfobjanaaGreatDoor.R
namespace Go.Proofs.YtjiendlfobjanaaGreatDoor.R
open Go Go.RowKit Go.Proofs Tryz
set_option maxRecDepth 10000
set_option maxHeartbeats 2000000
attribute [local irreducible] Runs WPE CallK Ret
variable {a b d i n:Nat} {w:World}
theorem zPR:prog.underlying 5=some (.int .u8):=kR
theorem zMT:prog.underlying 2=some (.int .i64):=kR
theorem u8_eq {a b:UInt8} (h:(((a.toNat:Nat):Int)==((b.toNat:Nat):Int))=true):a=b:=gP.1 (t_beq h)
theorem u8_ne {a b:UInt8} (h:(((a.toNat:Nat):Int)==((b.toNat:Nat):Int))=false):a≠b:=fun e=>f_beq h (by rw [e])
theorem signed_ok {l:List UInt8}:Ret prog 157 #[S l] w (fun r _=>r = .tuple #[S (zS l),.int .i64 (if below l then -1 else 1)]):=by
 refine J0 15 func157 rfl (rj (ag (ag (rM 1 ?_))));refine zA (zA ?_);rcases l with _ | ⟨b,t⟩
 . skip
   refine rI (K1 (zAD zAM rfl (K8 rfl (mv (K3 (K3 (K3 (pc0 rfl (rS 2049 ?_)))))))));refine wcf rfl (sk (rJ (ag (ag (rM 12 ?_)))));exact zE (zM ⟨rfl,_,zv rfl rfl rfl,E0,rfl⟩)
 . have e:decide ((((b :: t).length:Nat):Int)>0)=true:=cZ (by simp only [et];omega);have hg:(decide ((((b :: t).length:Nat):Int)>0)==true)=true:=by rw [e];rfl
   refine rI (K1 (zAD zAM rfl (K8 rfl (mv (sr_g hg (zAH (sr_g hg (zAo (n:=0) zAM rfl rfl sM (sr_g hg (zC rfl rfl rfl (pc0 (b:=true) (cW Value.bool e) (rS 2049 ?_))))))))))));refine K0 rfl ?_ ?_<;>intro s
   . have h:b=45:=u8_eq (b:=45) s;subst h;refine rJ (K1 (zDX (n:=1) zAM rfl rfl sM (ag (ag (rM 12 ?_)))));exact zE (zU (zM ⟨rfl,_,zv rfl rfl rfl,E0,rfl⟩))
   . have h:b≠45:=u8_ne (b:=45) s;have hbl:below (b :: t)=false:=by simp [below,h]
     refine sk (rJ (ag (ag (rM 12 ?_))));refine zE (zM ⟨rfl,_,zv rfl rfl rfl,E0,?_⟩);rw [zS,hbl];rfl
theorem zNz {c:UInt8}:∀ {l:List UInt8} {i:Nat},i<l.length->(∀ j,j<i->l.getD j 0≠c)->l.getD i 0=c->cutAt c l=(l.take i,l.drop (i+1),true)
 | b :: l,0,_,_,h=>by
  have:b=c:=h;simp [cutAt,this]
 | b :: l,i+1,s,e,h=>by
  have z:b≠c:=e 0 oM;have ih:=zNz (c:=c) (l:=l) (i:=i) (by simpa using s) (fun j hj'=>e (j+1) oM) h;simp [cutAt,z,ih]
theorem zLd {c:UInt8}:∀ {l:List UInt8},(∀ j,j<l.length->l.getD j 0≠c)->cutAt c l=(l,[],false)
 | [],_=>rfl
 | b :: l,e=>by
  have h:b≠c:=e 0 sM;have ih:=zLd (c:=c) (l:=l) (fun j hj'=>e (j+1) (by simpa using hj'));simp [cutAt,h,ih]
theorem split_ok {l:List UInt8} {c:UInt8} (D:l.length<1000000000):Ret prog 158 #[S l,.int .u8 (c.toNat:Int)] w (fun r _=>r = .tuple #[S (cutAt c l).1,S (cutAt c l).2.1,.bool (cutAt c l).2.2]):=by
 refine J0 27 func158 rfl (rj (ag (ag (ag (rM 3 ?_)))));refine zA (rj (ag (rM 131 ?_)));refine zF (zX (X:=Nat) (fun i F w'=>Keep F [(0,S l),(1,.int .u8 (c.toNat:Nat)),(7,.int .i64 (i:Nat))]/\i<=l.length/\(∀ j,j<i->l.getD j 0≠c)/\Ext w w') (fun i=>l.length-i) 0 ⟨(kp rfl),di _,fun j e=>absurd e (gF _),E0⟩ ?_);rintro i ρ1 w1 ⟨G,H,e,E0⟩;refine wpe_k _ G ?_;refine zA (rJ (mv (K1 (zAD zAM rfl (K8 rfl (rM 2179 ?_))))));refine K0 rfl ?_ ?_<;>intro hc
 . have s:i<l.length:=t_lt hc;refine sk (zA (zF (rJ (mv (K1 (zAo (n:=i) zAM rfl rfl s (mv (K8 rfl (rM 262275 ?_)))))))));refine K0 rfl ?_ ?_<;>intro hc
   . have he:l.getD i 0=c:=u8_eq hc;refine zA (zBx 10 mixed kR fun K hK=>qM (qM (qS (fun hE=>zFw (n:=i) zAM rfl rfl oM eQ) (qM (qM (qS (fun hE=>zg (b:=1) (i+1) rfl rfl rfl oM eQ) (qS (fun hE=>zDX (n:=i+1) zAM rfl rfl oM eQ) (qS (fun hE=>zr eQ) (qS (fun hE=>zr eQ) (qS (fun hE=>zr eQ) (hK _ fun wq hE=>zAh ?_)))))))))));replace E0:=E0.trans hE;refine zK (K5 [1,4,5,6,7] ?_);refine zE (zd (zU (zAP (zd (zU (zM ?_))))));exact ⟨rfl,_,zBu rfl rfl rfl rfl,E0,by rw [zNz s e he];rfl⟩
   . have z:l.getD i 0≠c:=u8_ne hc;refine zw (zN (zK (rI (K8 rfl (ag (rl (zL (⟨rfl,i+1,⟨kw,oM,fun j C => ?_,E0⟩,oM⟩))))))));rcases gJ.1 C with h | rfl
     . exact e j h
     . exact z
 . have I:=f_lt hc;have hie:i=l.length:=by omega
   subst hie;refine zT (zt (zf (zI (zK (rJ (ag (ag (ag (rM 242 ?_)))))))));refine zE (zM ?_);exact ⟨rfl,_,zBu rfl rfl rfl rfl,E0,by rw [zLd e];rfl⟩
theorem zHy (b:UInt8):isDig b=true↔48<=b.toNat/\b.toNat<=57:=by simp [isDig]
theorem all_take_succ {l:List UInt8} (e:i<l.length) (h:(l.take i).all isDig=true) (s:isDig (l.getD i 0)=true):(l.take (i+1)).all isDig=true:=by
 rw [dG e,List.all_append,h];simp [cY e] at s;simp [s]
theorem zLu {l:List UInt8} (h:i<l.length) (e:isDig (l.getD i 0)=false):zAl l=false:=by
 have:l.all isDig=false:=by
  rw [List.all_eq_false];refine ⟨l[i],fD h,?_⟩;rw [cC,cY h] at e;simp at e;simp [e]
 simp [zAl,this]
theorem zAx {l:List UInt8} (G:l.length<1000000000):Ret prog 159 #[S l] w (fun r _=>r = .bool (zAl l)):=by
 refine J0 23 func159 rfl (rj (ag (rM 1 ?_)));refine zA (rj (ag (rM 9 ?_)));refine zF (zX (X:=Nat) (fun i H w'=>Keep H [(0,S l),(3,.int .i64 (i:Nat))]/\i<=l.length/\(l.take i).all isDig=true/\Ext w w') (fun i=>l.length-i) 0 ⟨(kp rfl),di _,rfl,E0⟩ ?_);rintro i ρ1 w1 ⟨I,J,C,E0⟩;refine wpe_k _ I ?_;refine zA (rJ (mv (K1 (zAD zAM rfl (K8 rfl (rM 137 ?_))))));refine K0 rfl ?_ ?_<;>intro z
 . have h:i<l.length:=t_lt z;refine sk (zA (zF (zA ?_)));by_cases h48:(l.getD i 0).toNat<48
   . have s:decide ((((l.getD i 0).toNat:Nat):Int)<48)=true:=cZ oM;have hg0:(decide ((((l.getD i 0).toNat:Nat):Int)<48)==false)=false:=by rw [s];rfl
     have e:isDig (l.getD i 0)=false:=by rw [ib,ne_eq,zHy];omega
     refine rI (mv (K1 (zAo (n:=i) zAM rfl rfl h (K8 rfl (mv (zCq hg0 (zCq hg0 (zCq hg0 (zCq hg0 (pc0 (b:=true) (cW Value.bool s) (rS 1015817 ?_)))))))))));refine wct rfl (rj (ag (rM 12 ?_)));refine zE (zd (zU (zAP (zd (zU (zM ?_))))));exact ⟨rfl,_,zZ rfl rfl,E0,by rw [zLu h e];rfl⟩
   . have s:decide ((((l.getD i 0).toNat:Nat):Int)<48)=false:=cU oM;have hg0:(decide ((((l.getD i 0).toNat:Nat):Int)<48)==false)=true:=by rw [s];rfl
     refine rI (mv (K1 (zAo (n:=i) zAM rfl rfl h (K8 rfl (mv (sr_g hg0 (zAH (sr_g hg0 (zAH (sr_g hg0 (zAo (n:=i) zAM rfl rfl h (sr_g hg0 (zC rfl rfl rfl (pc0 (b:=false) (cW Value.bool s) (rS 1015817 ?_)))))))))))))));refine K0 rfl ?_ ?_<;>intro z
     . have D:(((l.getD i 0).toNat:Nat):Int)>57:=dh z;have e:isDig (l.getD i 0)=false:=by rw [ib,ne_eq,zHy];omega
       refine rj (ag (rM 12 ?_));refine zE (zd (zU (zAP (zd (zU (zM ?_))))));exact ⟨rfl,_,zZ rfl rfl,E0,by rw [zLu h e];rfl⟩
     . have D:¬ (((l.getD i 0).toNat:Nat):Int)>57:=de z;have e:isDig (l.getD i 0)=true:=by rw [zHy];omega
       exact zw (zN (zK (rI (K8 rfl (ag (rl (zL (⟨rfl,i+1,⟨kw,oM,all_take_succ h C e,E0⟩,oM⟩))))))))
 . have F:=f_lt z;refine zT (zt (zf (zI (zK (rJ (K1 (zAD zAM rfl (K8 rfl (ag (rM 12 ?_))))))))));refine zE (en rfl E0 ?_);rw [dF F] at C;rw [zAl,C,Bool.and_true];cases l with
   | nil=>rfl
   | cons b t =>
    show Value.bool (decide ((((b :: t).length:Nat):Int)>0))=_;rw [cZ (by simp only [et];omega)];rfl
theorem natS_append (a b:List UInt8):natS (a++b)=natS a*10^b.length+natS b:=by
 have h:∀ (b:List UInt8) (n:Nat),b.foldl (fun n b=>10*n+(b.toNat-48)) n=n*10^b.length+natS b:=by
  intro b
  induction b with
  | nil=>intro n;simp [natS]
  | cons x t s =>
   intro n;have e:natS (x :: t)=t.foldl (fun n b=>10*n+(b.toNat-48)) (x.toNat-48):=by simp [natS]
   rw [List.foldl_cons,s,e,s,et,dB];grind
 unfold natS;rw [List.foldl_append,h];rfl
theorem natS_take_succ {l:List UInt8} (h:i<l.length):natS (l.take (i+1))=10*natS (l.take i)+((l.getD i 0).toNat-48):=by
 rw [dG h,zKp,cC,cY h,Option.getD_some]
theorem zLs (l:List UInt8) (j n:Nat):natS (l.take (j+n))=natS (l.take j)*10^((l.drop j).take n).length+natS ((l.drop j).take n):=by
 rw [<- natS_append,List.take_add]
theorem zSM {l:List UInt8} (h:l.all isDig=true) (e:i<l.length):48<=(l.getD i 0).toNat/\(l.getD i 0).toNat<=57:=by
 rw [<- zHy,cC,cY e];exact eZ.1 h _ (fD e)
theorem zMi {l:List UInt8} (h:l.all isDig=true) (i:Nat):(l.take i).all isDig=true:=by
 rw [eZ] at h ⊢;exact fun x e=>h x (List.mem_of_mem_take e)
theorem zMh {l:List UInt8} (h:l.all isDig=true) (i:Nat):(l.drop i).all isDig=true:=by
 rw [eZ] at h ⊢;exact fun x e=>h x (List.mem_of_mem_drop e)
theorem zRJ (h:i<=9):10^i<=1000000000:=dw dE h
theorem zLm (h:n<1152921504606846976):Fits n:=eN (zEh (eU h)) dK
theorem fit_natS' {l:List UInt8} (h:l.length<=1000) (e:l.all isDig=true):Fit (natS (l.take i)):=zFo (by rw [eW];omega) (zMi e i)
theorem u8_sub {b:UInt8} (h:48<=b.toNat/\b.toNat<=57):IntKind.u8.wrap (((b.toNat:Nat):Int)-48)=((b.toNat-48:Nat):Int):=by
 simp [IntKind.wrap,IntKind.bits,IntKind.signed];omega
theorem dig_add (e:a<4611686018427387904) (h:d<1000):IntKind.i64.wrap ((a:Int)+IntKind.i64.wrap (d:Int))=((a+d:Nat):Int):=by
 rw [zm (x:=(d:Int)) oM oM,zm oM oM];omega
theorem zIn {l:List UInt8} (C:l.length<=1000) (G:l.all isDig=true):Ret prog 161 #[S l] w (fun r w'=>IsN w' r (natS l)):=by
 refine J0 40 func161 rfl (rj (ag (rM 1 ?_)));refine rj (ag (rM 9 ?_));refine zA (zF (zX (X:=Nat) (fun j I w'=>∃ H,Keep I [(0,S (l.drop j)),(3,H)]/\j<=l.length/\IsN w' H (natS (l.take j))/\Ext w w') (fun j=>l.length-j) 0 ⟨.slice none 0 0,(kp rfl),di _,IsN.nil rfl,E0⟩ ?_));rintro j ρ1 V ⟨H,J,Z,e,E0⟩;refine wpe_k _ J ?_;refine zA (rJ (K1 (zAD zAM rfl (K8 rfl (rM 1033 ?_)))));refine K0 rfl ?_ ?_<;>intro hc
 . have aa:j<l.length:=by have h:=dh hc;rw [gH] at h;omega
   obtain ⟨n,U⟩:∃ n,min (l.drop j).length 9=n:=⟨_,rfl⟩;have hn9:n<=9/\1<=n/\n<=(l.drop j).length:=by rw [gH] at U ⊢;omega
   have ad:j+n<=l.length:=by have h:=hn9.2.2;rw [gH] at h;omega
   refine sk (zF (rJ (K1 (zAD zAM rfl (K1 (zIv (b:=9) n rfl rfl U (ag (rM 25 ?_))))))));refine rj (ag (ag (rM 121 ?_)));refine zA (rj (ag (rM 249 ?_)));refine zF (zX (X:=Nat) (fun i I w'=>Keep I [(0,S (l.drop j)),(3,H),(4,.int .i64 (n:Nat)),(5,.int .i64 (natS ((l.drop j).take i):Nat)),(6,.int .i64 ((10^i:Nat):Int)),(7,.int .i64 (i:Nat))]/\i<=n/\IsN w' H (natS (l.take j))/\Ext w w') (fun i=>n-i) 0 ⟨(kp rfl),di _,e,E0⟩ ?_);rintro i ρ1 w2 ⟨J,ae,e,E0⟩;refine wpe_k _ J ?_;refine zA (rJ (mv (K8 rfl (rM 65785 ?_))));refine K0 rfl ?_ ?_<;>intro hc
   . have Y:i<n:=t_lt hc;have F:i<(l.drop j).length:=by omega
     have L:=zSM (zMh G j) F;have M:=zRJ (oM:i<=9);have s:=zIm _ ((l.drop j).take i) rfl (zMi (zMh G j) i);rw [eW,dT oM] at s;have hp1:10*10^i=10^(i+1):=by rw [dB,dm]
     refine sk (zA (zF (rI (K1 (zBw (a:=10) (10*natS ((l.drop j).take i)) rfl rfl rfl oM (mv (mv (K1 (zAo (n:=i) zAM rfl rfl F (K1 (zC (v := .int .u8 (((l.drop j).getD i 0).toNat-48:Nat)) rfl rfl (cW (fun z=>some (Value.int .u8 z)) (u8_sub L)) (K1 (zBz (n:=((((l.drop j).getD i 0).toNat-48:Nat):Int)) zPR zMT rfl (K1 (zC (v := .int .i64 ((10*natS ((l.drop j).take i)+(((l.drop j).getD i 0).toNat-48):Nat):Int)) rfl rfl (sI (dig_add oM oM)) (mv (K1 (zBw (a:=10) (10^(i+1)) rfl rfl hp1 oM ?_))))))))))))))))));refine ag (ag (rl (zN (zK (K5 [0,3,4,5,6,7] ?_)))));exact rI (K8 rfl (ag (rl (zL (⟨rfl,i+1,⟨⟨rfl,rfl,rfl,rfl,rfl,rfl,rfl,cW (Value.int .i64) (cW Nat.cast (natS_take_succ F).symm),rfl,rfl,rfl,cW (Value.int .i64) (wrap_succ oM),trivial⟩,oM,e,E0⟩,oM⟩)))))
   . have Y:=f_lt hc;obtain rfl:i=n:=by omega
     have M:=zRJ hn9.1;have hcl:((l.drop j).take i).length=i:=by rw [eW];omega
     have s:=zIm _ ((l.drop j).take i) rfl (zMi (zMh G j) i);rw [hcl] at s;have hfo:=fit_natS' (i:=j) C G;have hfm:Fit (natS (l.take j)*10^i):=by
      have:=fit_natS' (i:=j+i) C G;rw [zLs,hcl] at this;exact this.le (gV _ _)
     refine zT (zt (zf (zI (zK (rJ (mv (K1 (j1 E0 e.ext yB (zEw (n:=10^i) oM) fun vs V E0 e D=>K1 (j2 E0 e.ext D.ext yB (zCX e D hfo (zLm oM).fit) fun vt w2 E0 e D ht=>mv (K1 (j3 E0 e.ext D.ext ht.ext yB (zEw (n:=natS ((l.drop j).take i)) oM) fun vp w3 E0 e D ht hs2=>K1 (j4 E0 e.ext D.ext ht.ext hs2.ext yB (zNL ht hs2 hfm (zLm oM).fit) fun vq w4 E0 e D ht hs2 hp=>ag (rM 249 ?_)))))))))))));refine rI (mv (K1 (zDX (n:=i) zAM rfl rfl oM (ag (rl (zN (zL (⟨rfl,j+i,⟨_,⟨rfl,cW S (by rw [List.drop_drop]),rfl,rfl,trivial⟩,oM,?_,E0⟩,oM⟩))))))));rw [zLs,hcl];exact hp
 . have N:l.length<=j:=by have h:=de hc;rw [gH] at h;omega
   refine zT (zt (zf (zI (zK (rJ (ag (rM 4 ?_)))))));refine zE (en rfl E0 ?_);rw [dF N] at e;exact e
theorem IsR.mkS {s:Int} {n d:Value} (D:s=1\/s = -1) (e:a≠0) (h:b≠0) (z:IsN w n (a/Nat.gcd a b)) (C:IsN w d (b/Nat.gcd a b)):IsR w (.agg #[.int .i64 s,n,d]) (qOf (decide (s<0)) a b):=by
 rcases D with rfl | rfl
 . exact IsR.mk' (s:=false) e h z C
 . exact IsR.mk' (s:=true) e h z C
theorem zGQ {s:Int} {x y:Value} (hs:s=1\/s = -1\/s=0) (z:IsN w x a) (C:IsN w y b) (Z:b≠0) (M:Fits a) (aa:Fits b):Ret prog 160 #[.int .i64 s,x,y] w (fun v w'=>IsR w' v (qOf (decide (s<0)) (if s=0 then 0 else a) b)):=by
 obtain ⟨pn,ln,kn,rfl,aj,ad,-⟩:=z.shape;refine J0 46 func160 rfl (rj ?_);refine K1 (zR zero50 (Z2 E0 z.ext C.ext fun b1 w1 E0 z C hgb1 h=>rM 71 ?_));refine zA (zA ?_);rcases (oM:s=0\/(s≠0/\a=0)\/(s≠0/\a≠0)) with L | ⟨L,G⟩ | ⟨L,G⟩
 . subst L;refine rI (K8 rfl (mv (K3 (K3 (K3 (pc0 rfl (rS 16455 ?_)))))));refine wct rfl (rj (K1 (zV (cs := #[.int .i64 0,.slice none 0 0,.slice none 0 0]) kR (K1 (zc zGB rfl h rfl (cw rfl) dE rfl fun V H Y => ?_)))));replace E0:=E0.upd H hgb1;replace z:=z.upd H h dE;replace C:=C.upd H h dE;clear h;have h:=Y;refine rM 65 ?_;refine zE (zU (zM ?_));exact ⟨rfl,_,zq rfl rfl rfl zAS h rfl,E0,by rw [cD rfl,zNP];exact IsR.zero⟩
 . have he:(s==0)=false:=dk.2 L;have hg0:((s==0)==false)=true:=by rw [he];rfl
   obtain rfl:=ad G;refine rI (K8 rfl (mv (sr_g hg0 (zAH (sr_g hg0 (zG zu rfl (sr_g hg0 (zC rfl rfl rfl (pc0 (b:=false) (cW Value.bool he) (rS 16455 ?_))))))))));refine wct rfl (rj (K1 (zV (cs := #[.int .i64 0,.slice none 0 0,.slice none 0 0]) kR (K1 (zc zGB rfl h rfl (cw rfl) dE rfl fun V H Y => ?_)))));replace E0:=E0.upd H hgb1;replace z:=z.upd H h dE;replace C:=C.upd H h dE;clear h;have h:=Y;refine rM 65 ?_;refine zE (zU (zM ?_));exact ⟨rfl,_,zq rfl rfl rfl zAS h rfl,E0,by rw [ct L,G,zNP];exact IsR.zero⟩
 . have he:(s==0)=false:=dk.2 L;have hg0:((s==0)==false)=true:=by rw [he];rfl
   have ak:(((ln:Nat):Int)==0)=false:=dk.2 (fun e=>G (aj oM));refine rI (K8 rfl (mv (sr_g hg0 (zAH (sr_g hg0 (zG zu rfl (sr_g hg0 (zC rfl rfl rfl (pc0 (b:=false) (cW Value.bool he) (rS 16455 ?_))))))))));refine wcf (cW Value.bool ak) (sk (zBZ (fun ρ w'=>∃ vn vd,Keep ρ [(0,.int .i64 s),(1,vn),(2,vd),(6,.pointer (some ⟨b1,0,none⟩))]/\Ext w w'/\IsN w' vn (a/Nat.gcd a b)/\IsN w' vd (b/Nat.gcd a b)/\Blk w' b1 50 [Value.int .i64 0,Value.slice none 0 0,Value.slice none 0 0]) ?_ ?_))
   . refine zA ?_;rcases (oM:a=1\/(a≠1/\b=1)\/(a≠1/\b≠1)) with X | ⟨X,h2⟩ | ⟨X,h2⟩
     . have N:a=1\/b=1:=Or.inl X;refine rI (K1 (j3 E0 z.ext C.ext h.ext yB (zCZ z) fun J V E0 z C h F => ?_));obtain rfl:=F.trans (cW Value.bool (cZ X));refine K1 (zp rfl (mv (K3 (K3 (K3 (pc0 rfl (rS 8388679 ?_)))))));refine wcf rfl (zw (zL ?_));have I:Nat.gcd a b=1:=by rcases N with e | e<;>rw [e]<;>simp
       exact ⟨rfl,_,_,(kp rfl),E0,by rw [I,fI];exact z,by rw [I,fI];exact C,h⟩
     . have N:a=1\/b=1:=Or.inr h2;refine rI (K1 (j3 E0 z.ext C.ext h.ext yB (zCZ z) fun J V E0 z C h F => ?_));obtain rfl:=F.trans (cW Value.bool (cU X));refine K1 (zp rfl (mv (K7 (K2 (j3 E0 z.ext C.ext h.ext yB (zCZ C) fun v3_5 w3 E0 z C h F => ?_)))));obtain rfl:=F.trans (cW Value.bool (cZ h2));refine K2 (zp rfl (pc0 rfl (rS 8388679 ?_)));refine wcf rfl (zw (zL ?_));have I:Nat.gcd a b=1:=by rcases N with e | e<;>rw [e]<;>simp
       exact ⟨rfl,_,_,(kp rfl),E0,by rw [I,fI];exact z,by rw [I,fI];exact C,h⟩
     . skip
       refine rI (K1 (j3 E0 z.ext C.ext h.ext yB (zCZ z) fun J V E0 z C h F => ?_));obtain rfl:=F.trans (cW Value.bool (cU X));refine K1 (zp rfl (mv (K7 (K2 (j3 E0 z.ext C.ext h.ext yB (zCZ C) fun v3_5 w3 E0 z C h F => ?_)))));obtain rfl:=F.trans (cW Value.bool (cU h2));refine K2 (zp rfl (pc0 rfl (rS 8388679 ?_)));refine wct rfl (rJ (mv (K1 (j3 E0 z.ext C.ext h.ext yB (zFO z C M aa Z) fun v4_2 w4 E0 z C h D => ?_))));have hg0:Nat.gcd a b≠0:=fun e=>G (Nat.gcd_eq_zero_iff.1 e).1;have hfg:Fits (Nat.gcd a b):=M.le (Nat.le_of_dvd (gG G) (ij a b));refine ag (rM 199 ?_);refine rJ (K1 (j4 E0 z.ext C.ext h.ext D.ext yB (zCZ D) fun v5_1 w5 E0 z C h D F => ?_));subst F;refine K1 (zp rfl (rM 536871111 ?_));refine K0 rfl ?_ ?_<;>intro hc
       . skip
         refine rJ (mv (K1 (j4 E0 z.ext C.ext h.ext D.ext yB (zDl z D M hfg hg0) fun ao w6 E0 z C h D F => ?_)));obtain ⟨q1,r1,rfl,U,-⟩:=F;refine mv (xt rfl (xt rfl (ag (rM 199 ?_))));refine rI (mv (K1 (j5 E0 z.ext C.ext h.ext D.ext U.ext yB (zDl C D aa hfg hg0) fun v7_2 w7 E0 z C h D U F => ?_)));obtain ⟨q2,r2,rfl,al,-⟩:=F;exact mv (xt rfl (xt rfl (ag (rl (zL ⟨rfl,_,_,(kp rfl),E0,U,al,h⟩)))))
       . have am:Nat.gcd a b=1:=by simpa using hc
         refine zw (zL ?_);have I:Nat.gcd a b=1:=am;exact ⟨rfl,_,_,(kp rfl),E0,by rw [I,fI];exact z,by rw [I,fI];exact C,h⟩
   . skip
     rintro az V ⟨vn,vd,hk,E0,z,C,h⟩;obtain ⟨p1,l1,k1,rfl,-,-,-⟩:=z.shape;obtain ⟨p2,l2,k2,rfl,-,-,-⟩:=C.shape;refine wpe_k _ hk ?_;refine rJ (mv (mv (K1 (zV (cs := #[.int .i64 s,.slice p1 l1 k1,.slice p2 l2 k2]) kR (K1 (zc zGB rfl h rfl (cw rfl) dE rfl fun V H Y => ?_))))));replace E0:=E0.upd H hgb1;replace z:=z.upd H h dE;replace C:=C.upd H h dE;clear h;have h:=Y;refine rM 65 ?_;refine zE (zM ?_);exact ⟨rfl,_,zq rfl rfl rfl zAS h rfl,E0,by rw [ct L];exact IsR.mkS oM G Z z C⟩
variable {bot:List UInt8} {two:Bool}
theorem zDU {l top:List UInt8} (z:cutAt 47 (zS l)=(top,bot,two)) (h:zAb top=false\/(top=[48]/\(below l=true\/two=true))\/(two=true/\(zAb bot=false\/bot=[48]\/bot=[49]))):zk l=(0,6):=by
 rw [zBB,z];simp only;by_cases s:(!zAb top || (top==[48]&&(below l || two)))=true
 . rw [cD s]
 . rw [ct s];rw [cD];rcases h with h | ⟨h,e⟩ | ⟨h,e⟩
   . simp [h] at s
   . simp [h] at s;rcases e with e | e<;>simp [e] at s
   . rw [h];rcases e with e | e | e<;>simp [e]
theorem zNJ {l top:List UInt8} (h:cutAt 47 (zS l)=(top,bot,two)) (D:zAb top=true) (C:¬ (top=[48]/\(below l=true\/two=true))) (F:two=true->(zAb bot=true/\bot≠[48])/\bot≠[49]) :
 zk l=if 1000<top.length\/1000<bot.length then (0,3) else if two=false then (qOf (below l) (natS top) 1,0) else if Nat.gcd (natS top) (natS bot)≠1 then (0,6) else (qOf (below l) (natS top) (natS bot),0):=by
 rw [zBB,h];simp only;rw [ct (by
  rw [D];by_cases s:top=[48]
  . have z:below l=false:=by cases z:below l with | false=>rfl | true=>exact absurd ⟨s,.inl z⟩ C
    have e:two=false:=by cases e:two with | false=>rfl | true=>exact absurd ⟨s,.inr e⟩ C
    rw [z,e];simp
  . simp [s]),ct (by
  cases e:two with
  | false=>simp
  | true =>
   obtain ⟨⟨a,b⟩,c⟩:=F e;simp [a,b,c])]
 cases two<;>simp
theorem zSt {t:List UInt8} (e:t.length<=1) (h:zAl t=true) (s:t.getD 0 0=48):t=[48]:=by
 match t,e with
 | [],_=>cases h
 | [b],_=>have:b=48:=s;rw [this]
theorem zLx {t:List UInt8} (s:t.length<=1) (e:zAl t=true):zAb t=true:=by
 unfold zAb;rw [e,iK];by_cases h:t.getD 0 0=48
 . rw [zSt s e h];rfl
 . rw [iw];exact .inr (fO.2 h)
theorem zGs {t:List UInt8} (s:zAl t=true) (h:t.getD 0 0≠48):zAb t=true/\t≠[48]:=by
 refine ⟨?_,fun e=>h (by rw [e];rfl)⟩;unfold zAb;rw [s,iK,iw];exact .inr (fO.2 h)
theorem zKx {t:List UInt8} (s:1<t.length) (h:t.getD 0 0=48):zAb t=false:=by
 unfold zAb;have z:(t==[48])=false:=by rw [dk];intro e;rw [e] at s;exact absurd s dE
 have C:(t.getD 0 0 != 48)=false:=by rw [h];rfl
 rw [z,C];simp
theorem zRG {t:List UInt8} (s:zAl t=true) (h:t.getD 0 0=48):zAb t=false\/t=[48]:=by
 rcases dR 1 t.length with e | e
 . exact .inl (zKx e h)
 . exact .inr (zSt e s h)
theorem zKw {t:List UInt8} (e:zAl t=false):zAb t=false:=by unfold zAb;rw [e];rfl
theorem zGh {t:List UInt8} (e:zAl t=true):0<t.length:=by
 cases t with
 | nil=>cases e
 | cons b t=>simp
theorem zKL {c:UInt8}:∀ {l:List UInt8},(cutAt c l).2.2=false->(cutAt c l).2.1=[]
 | [],_=>rfl
 | b :: l,h=>by
  unfold cutAt at h ⊢;split
  . rename_i e;rw [cD e] at h;cases h
  . rename_i e;rw [ct e] at h;exact zKL h
theorem zKT {l:List UInt8} (h:l.length<=1000) (s:l.all isDig=true):Fits (natS l):=by
 have z:=zIm _ l rfl s;have h2:10^l.length<=16^l.length:=gB dE _;have h3:(16:Nat)^l.length=2^(4*l.length):=by rw [show (16:Nat)=2^4 from rfl,<- gL]
 by_cases e:natS l=0
 . rw [e];unfold Fits;simp
 . unfold Fits;have:=(gd e (k:=4*l.length)).2 oM;omega
theorem split3 {top bot:List UInt8} {two:Bool}:zAl top=false\/(zAl top=true/\two=true/\zAl bot=false) \/
 (zAl top=true/\two=false/\1<top.length/\(top.getD 0 0).toNat=48)\/(zAl top=true/\two=false/\1<top.length/\(top.getD 0 0).toNat≠48)\/(zAl top=true/\two=false/\¬ 1<top.length) \/
 (zAl top=true/\two=true/\zAl bot=true/\1<top.length/\(top.getD 0 0).toNat=48)\/(zAl top=true/\two=true/\zAl bot=true/\1<top.length/\(top.getD 0 0).toNat≠48/\(bot.getD 0 0).toNat=48)\/(zAl top=true/\two=true/\zAl bot=true/\1<top.length/\(top.getD 0 0).toNat≠48/\(bot.getD 0 0).toNat≠48) \/
 (zAl top=true/\two=true/\zAl bot=true/\¬ 1<top.length/\(bot.getD 0 0).toNat=48)\/(zAl top=true/\two=true/\zAl bot=true/\¬ 1<top.length/\(bot.getD 0 0).toNat≠48):=by
 generalize zAl top=d1;generalize zAl bot=d2;generalize (top.getD 0 0).toNat=t0;generalize (bot.getD 0 0).toNat=b0;by_cases h1:1<top.length<;>by_cases h2:t0=48<;>by_cases h3:b0=48<;>cases d1<;>cases d2<;>cases two<;>simp [h1,h2,h3]
theorem Parse_ok {l:List UInt8} (aK:l.length<1000000000):Ret prog 66 #[S l] w (fun r w'=>∃ u,r = .tuple #[u,.int .i64 (zk l).2]/\IsR w' u (zk l).1):=by
 have aO:=zGa l;have hcl:=zHr 47 (zS l);have hbn := @zKL 47 (zS l);rcases hcut:cutAt 47 (zS l) with ⟨top,bot,two⟩
 rw [hcut] at hcl hbn;simp only at hcl hbn;obtain ⟨s,hs⟩:∃ s:Int,(if below l=true then (-1:Int) else 1)=s:=⟨_,rfl⟩;have ax:(below l=true/\s = -1)\/(below l=false/\s=1):=by
  cases hb:below l with
  | true=>rw [hb] at hs;exact .inl ⟨rfl,hs.symm⟩
  | false=>rw [hb] at hs;exact .inr ⟨rfl,hs.symm⟩
 have ay:decide (s<0)=below l:=by rcases ax with ⟨h1,N⟩ | ⟨h1,N⟩<;>rw [h1,N]<;>rfl
 refine J0 96 func66 rfl (rj ?_);refine K1 (zR zero50 (Z0 E0 fun b1 w1 E0 H z=>ag (rM 5 ?_)));refine rJ (K1 (j1 E0 z.ext yB (signed_ok) fun v1_1 w2 E0 z J => ?_));rw [hs] at J;subst J;refine mv (xt rfl (xt rfl (ag (ag (rM 52 ?_)))));refine rJ (K1 (j1 E0 z.ext yB (split_ok (c:=47) oM) fun v2_1 w3 E0 z J => ?_));rw [hcut] at J;subst J;refine mv (xt rfl (xt rfl (xt rfl (ag (ag (ag (rM 484 ?_)))))));refine zBZ (fun ρ w'=>Keep ρ [(2,.pointer (some ⟨b1,0,none⟩)),(5,.int .i64 s),(6,S top),(7,S bot),(8,.bool two)]/\Ext w w'/\Blk w' b1 50 [Value.int .i64 0,Value.slice none 0 0,Value.slice none 0 0]/\zAb top=true/\(two=true->zAb bot=true/\bot≠[48])) ?_ ?_
 . refine zA ?_;rcases @split3 top bot two with G | ⟨G,N,I⟩ | ⟨G,N,hl,h0⟩ | ⟨G,N,hl,h0⟩ | ⟨G,N,hl⟩ | ⟨G,N,I,hl,h0⟩ | ⟨G,N,I,hl,h0,ad⟩ | ⟨G,N,I,hl,h0,ad⟩ | ⟨G,N,I,hl,ad⟩ | ⟨G,N,I,hl,ad⟩
   . subst_vars
     have he:zk l=(0,6):=zDU hcut (.inl (zKw G));refine rI (K1 (j1 E0 z.ext yB (zAx oM) fun U w4 E0 z J => ?_));obtain rfl:=J.trans (cW Value.bool G);refine K1 (zp rfl (mv (K3 (K3 (K3 (K3 (K3 (K3 (pc0 rfl (mv (K3 (K3 (K3 (K3 (K3 ?_)))))))))))))));refine K3 (K3 (K3 (pc0 rfl (mv (K3 (K3 (K3 (K3 (K3 (K3 (pc0 rfl (rs [2,5,6,7,8,50] ?_))))))))))));refine wct rfl (rj (K1 (zV (cs := #[.int .i64 0,.slice none 0 0,.slice none 0 0]) kR (K1 (runs_rstoreK rfl IsR.zero (Cell3.of z rfl) fun _ w9 V C => ?_)))));replace E0:=E0.upd V H;obtain ⟨X,D,F,C⟩:=C;refine ag (rM 300 ?_);refine zE (zAP (zM ?_));exact ⟨rfl,_,za rfl rfl rfl rfl zAS D F,E0,_,by rw [he];rfl,by rw [he];exact C⟩
   . subst N;have he:zk l=(0,6):=zDU hcut (.inr (.inr ⟨rfl,.inl (zKw I)⟩));refine rI (K1 (j1 E0 z.ext yB (zAx oM) fun U w4 E0 z J => ?_));obtain rfl:=J.trans (cW Value.bool G);refine K1 (zp rfl (mv (K7 (K7 (K7 (K2 (j1 E0 z.ext yB (zAx oM) fun v3_7 w5 E0 z J => ?_)))))));obtain rfl:=J.trans (cW Value.bool I);refine K2 (zp rfl (K2 (zAB rfl (pc0 rfl (mv (K3 (K3 (K3 (K3 (K3 (K3 (K3 (K3 (pc0 rfl (mv (K3 ?_))))))))))))))));refine K3 (K3 (K3 (K3 (K3 (pc0 rfl (rs [2,5,6,7,8,50] ?_))))));refine wct rfl (rj (K1 (zV (cs := #[.int .i64 0,.slice none 0 0,.slice none 0 0]) kR (K1 (runs_rstoreK rfl IsR.zero (Cell3.of z rfl) fun _ w9 V C => ?_)))));replace E0:=E0.upd V H;obtain ⟨X,D,F,C⟩:=C;refine ag (rM 300 ?_);refine zE (zAP (zM ?_));exact ⟨rfl,_,za rfl rfl rfl rfl zAS D F,E0,_,by rw [he];rfl,by rw [he];exact C⟩
   . subst N;have he:zk l=(0,6):=zDU hcut (.inl (zKx hl (gP.1 (show (top.getD 0 0).toNat=(48:UInt8).toNat from h0))));refine rI (K1 (j1 E0 z.ext yB (zAx oM) fun U w4 E0 z J => ?_));obtain rfl:=J.trans (cW Value.bool G);refine K1 (zp rfl (mv (K7 (K7 (K3 (K3 (K3 (K2 (zAB rfl (pc0 rfl (mv (K7 (K2 (zAD zAM rfl (K2 (zC (v := .bool true) rfl rfl (sB (cZ oM)) (K7 (K7 ?_))))))))))))))))));refine K2 (zAo (n:=0) zAM rfl rfl oM (K2 (zC (v := .bool true) rfl rfl (sB (ge.2 oM)) (K2 (zAB rfl (pc0 rfl (mv (K3 (K3 (K3 (K3 (K3 (K3 (pc0 rfl (rs [2,5,6,7,8,50] ?_)))))))))))))));refine wct rfl (rj (K1 (zV (cs := #[.int .i64 0,.slice none 0 0,.slice none 0 0]) kR (K1 (runs_rstoreK rfl IsR.zero (Cell3.of z rfl) fun _ w9 V C => ?_)))));replace E0:=E0.upd V H;obtain ⟨X,D,F,C⟩:=C;refine ag (rM 300 ?_);refine zE (zAP (zM ?_));exact ⟨rfl,_,za rfl rfl rfl rfl zAS D F,E0,_,by rw [he];rfl,by rw [he];exact C⟩
   . subst N;have L:=(zGs G (fun e=>h0 (by rw [e];rfl))).1;have aa:false=true->zAb bot=true/\bot≠[48]:=fun h=>by cases h
     refine rI (K1 (j1 E0 z.ext yB (zAx oM) fun U w4 E0 z J => ?_));obtain rfl:=J.trans (cW Value.bool G);refine K1 (zp rfl (mv (K7 (K7 (K3 (K3 (K3 (K2 (zAB rfl (pc0 rfl (mv (K7 (K2 (zAD zAM rfl (K2 (zC (v := .bool true) rfl rfl (sB (cZ oM)) (K7 (K7 ?_))))))))))))))))));refine K2 (zAo (n:=0) zAM rfl rfl oM (K2 (zC (v := .bool false) rfl rfl (sB (dk.2 oM)) (K2 (zAB rfl (pc0 rfl (mv (K7 (K7 (K3 (K3 (K3 (K2 (zAB rfl (pc0 rfl (rs [2,5,6,7,8,50] ?_))))))))))))))));exact wcf rfl (zw (zL ⟨rfl,(kp rfl),E0,z,L,aa⟩))
   . subst N;have L:=zLx oM G;have aa:false=true->zAb bot=true/\bot≠[48]:=fun h=>by cases h
     refine rI (K1 (j1 E0 z.ext yB (zAx oM) fun U w4 E0 z J => ?_));obtain rfl:=J.trans (cW Value.bool G);refine K1 (zp rfl (mv (K7 (K7 (K3 (K3 (K3 (K2 (zAB rfl (pc0 rfl (mv (K7 (K2 (zAD zAM rfl (K2 (zC (v := .bool false) rfl rfl (sB (cU oM)) (K7 (K3 ?_))))))))))))))))));refine K3 (K3 (K2 (zAB rfl (pc0 rfl (mv (K7 (K7 (K3 (K3 (K3 (K2 (zAB rfl (pc0 rfl (rs [2,5,6,7,8,50] ?_))))))))))))));exact wcf rfl (zw (zL ⟨rfl,(kp rfl),E0,z,L,aa⟩))
   . subst N;have he:zk l=(0,6):=zDU hcut (.inl (zKx hl (gP.1 (show (top.getD 0 0).toNat=(48:UInt8).toNat from h0))));refine rI (K1 (j1 E0 z.ext yB (zAx oM) fun U w4 E0 z J => ?_));obtain rfl:=J.trans (cW Value.bool G);refine K1 (zp rfl (mv (K7 (K7 (K7 (K2 (j1 E0 z.ext yB (zAx oM) fun v3_7 w5 E0 z J => ?_)))))));obtain rfl:=J.trans (cW Value.bool I);refine K2 (zp rfl (K2 (zAB rfl (pc0 rfl (mv (K7 (K2 (zAD zAM rfl (K2 (zC (v := .bool true) rfl rfl (sB (cZ oM)) (K7 (K7 (K2 (zAo (n:=0) zAM rfl rfl oM (K2 (zC (v := .bool true) rfl rfl (sB (ge.2 oM)) (K2 (zAB rfl (pc0 rfl (mv (K3 ?_)))))))))))))))))))));refine K3 (K3 (K3 (K3 (K3 (pc0 rfl (rs [2,5,6,7,8,50] ?_))))));refine wct rfl (rj (K1 (zV (cs := #[.int .i64 0,.slice none 0 0,.slice none 0 0]) kR (K1 (runs_rstoreK rfl IsR.zero (Cell3.of z rfl) fun _ w9 V C => ?_)))));replace E0:=E0.upd V H;obtain ⟨X,D,F,C⟩:=C;refine ag (rM 300 ?_);refine zE (zAP (zM ?_));exact ⟨rfl,_,za rfl rfl rfl rfl zAS D F,E0,_,by rw [he];rfl,by rw [he];exact C⟩
   . subst N;have aj:=zGh I;have he:zk l=(0,6):=zDU hcut (.inr (.inr ⟨rfl,(zRG I (gP.1 (show (bot.getD 0 0).toNat=(48:UInt8).toNat from ad))).imp id .inl⟩));refine rI (K1 (j1 E0 z.ext yB (zAx oM) fun U w4 E0 z J => ?_));obtain rfl:=J.trans (cW Value.bool G);refine K1 (zp rfl (mv (K7 (K7 (K7 (K2 (j1 E0 z.ext yB (zAx oM) fun v3_7 w5 E0 z J => ?_)))))));obtain rfl:=J.trans (cW Value.bool I);refine K2 (zp rfl (K2 (zAB rfl (pc0 rfl (mv (K7 (K2 (zAD zAM rfl (K2 (zC (v := .bool true) rfl rfl (sB (cZ oM)) (K7 (K7 (K2 (zAo (n:=0) zAM rfl rfl oM (K2 (zC (v := .bool false) rfl rfl (sB (dk.2 oM)) (K2 (zAB rfl (pc0 rfl (mv (K7 ?_)))))))))))))))))))));refine K7 (K7 (K2 (zAo (n:=0) zAM rfl rfl aj (K2 (zC (v := .bool true) rfl rfl (sB (ge.2 oM)) (K2 (zAB rfl (pc0 rfl (rs [2,5,6,7,8,50] ?_)))))))));refine wct rfl (rj (K1 (zV (cs := #[.int .i64 0,.slice none 0 0,.slice none 0 0]) kR (K1 (runs_rstoreK rfl IsR.zero (Cell3.of z rfl) fun _ w9 V C => ?_)))));replace E0:=E0.upd V H;obtain ⟨X,D,F,C⟩:=C;refine ag (rM 300 ?_);refine zE (zAP (zM ?_))
     exact ⟨rfl,_,za rfl rfl rfl rfl zAS D F,E0,_,by rw [he];rfl,by rw [he];exact C⟩
   . subst N;have aj:=zGh I;have L:=(zGs G (fun e=>h0 (by rw [e];rfl))).1;have aa:true=true->zAb bot=true/\bot≠[48]:=fun _=>zGs I (fun e=>ad (by rw [e];rfl));refine rI (K1 (j1 E0 z.ext yB (zAx oM) fun U w4 E0 z J => ?_));obtain rfl:=J.trans (cW Value.bool G);refine K1 (zp rfl (mv (K7 (K7 (K7 (K2 (j1 E0 z.ext yB (zAx oM) fun v3_7 w5 E0 z J => ?_)))))));obtain rfl:=J.trans (cW Value.bool I);refine K2 (zp rfl (K2 (zAB rfl (pc0 rfl (mv (K7 (K2 (zAD zAM rfl (K2 (zC (v := .bool true) rfl rfl (sB (cZ oM)) (K7 (K7 (K2 (zAo (n:=0) zAM rfl rfl oM (K2 (zC (v := .bool false) rfl rfl (sB (dk.2 oM)) (K2 (zAB rfl (pc0 rfl (mv (K7 ?_)))))))))))))))))))));refine K7 (K7 (K2 (zAo (n:=0) zAM rfl rfl aj (K2 (zC (v := .bool false) rfl rfl (sB (dk.2 oM)) (K2 (zAB rfl (pc0 rfl (rs [2,5,6,7,8,50] ?_)))))))));exact wcf rfl (zw (zL ⟨rfl,(kp rfl),E0,z,L,aa⟩))
   . subst N;have aj:=zGh I;have he:zk l=(0,6):=zDU hcut (.inr (.inr ⟨rfl,(zRG I (gP.1 (show (bot.getD 0 0).toNat=(48:UInt8).toNat from ad))).imp id .inl⟩));refine rI (K1 (j1 E0 z.ext yB (zAx oM) fun U w4 E0 z J => ?_));obtain rfl:=J.trans (cW Value.bool G);refine K1 (zp rfl (mv (K7 (K7 (K7 (K2 (j1 E0 z.ext yB (zAx oM) fun v3_7 w5 E0 z J => ?_)))))));obtain rfl:=J.trans (cW Value.bool I);refine K2 (zp rfl (K2 (zAB rfl (pc0 rfl (mv (K7 (K2 (zAD zAM rfl (K2 (zC (v := .bool false) rfl rfl (sB (cU oM)) (K7 (K3 (K3 (K3 (K2 (zAB rfl (pc0 rfl (mv (K7 ?_)))))))))))))))))));refine K7 (K7 (K2 (zAo (n:=0) zAM rfl rfl aj (K2 (zC (v := .bool true) rfl rfl (sB (ge.2 oM)) (K2 (zAB rfl (pc0 rfl (rs [2,5,6,7,8,50] ?_)))))))));refine wct rfl (rj (K1 (zV (cs := #[.int .i64 0,.slice none 0 0,.slice none 0 0]) kR (K1 (runs_rstoreK rfl IsR.zero (Cell3.of z rfl) fun _ w9 V C => ?_)))));replace E0:=E0.upd V H;obtain ⟨X,D,F,C⟩:=C;refine ag (rM 300 ?_);refine zE (zAP (zM ?_));exact ⟨rfl,_,za rfl rfl rfl rfl zAS D F,E0,_,by rw [he];rfl,by rw [he];exact C⟩
   . subst N;have aj:=zGh I;have L:=zLx oM G;have aa:true=true->zAb bot=true/\bot≠[48]:=fun _=>zGs I (fun e=>ad (by rw [e];rfl));refine rI (K1 (j1 E0 z.ext yB (zAx oM) fun U w4 E0 z J => ?_));obtain rfl:=J.trans (cW Value.bool G);refine K1 (zp rfl (mv (K7 (K7 (K7 (K2 (j1 E0 z.ext yB (zAx oM) fun v3_7 w5 E0 z J => ?_)))))));obtain rfl:=J.trans (cW Value.bool I);refine K2 (zp rfl (K2 (zAB rfl (pc0 rfl (mv (K7 (K2 (zAD zAM rfl (K2 (zC (v := .bool false) rfl rfl (sB (cU oM)) (K7 (K3 (K3 (K3 (K2 (zAB rfl (pc0 rfl (mv (K7 ?_)))))))))))))))))));refine K7 (K7 (K2 (zAo (n:=0) zAM rfl rfl aj (K2 (zC (v := .bool false) rfl rfl (sB (dk.2 oM)) (K2 (zAB rfl (pc0 rfl (rs [2,5,6,7,8,50] ?_)))))))));exact wcf rfl (zw (zL ⟨rfl,(kp rfl),E0,z,L,aa⟩))
 . skip
   rintro aE w2 ⟨hk,E0,z,L,aa⟩;refine wpe_k _ hk ?_;refine zBZ (fun ρ w'=>Keep ρ [(2,.pointer (some ⟨b1,0,none⟩)),(5,.int .i64 s),(6,S top),(7,S bot),(8,.bool two)]/\Ext w w'/\Blk w' b1 50 [Value.int .i64 0,Value.slice none 0 0,Value.slice none 0 0]/\¬ (top=[48]/\(below l=true\/two=true))/\(two=true->bot≠[49])) ?_ ?_
   . refine zA ?_;rcases (show ((top==[48])=false/\(bot==[49])=true)\/((top==[48])=false/\(bot==[49])=false)\/((top==[48])=true/\below l=true/\s = -1)\/((top==[48])=true/\(below l=false/\s=1)/\two=true)\/((top==[48])=true/\(below l=false/\s=1)/\two=false) from by
      rcases ax with ⟨h1,N⟩ | ⟨h1,N⟩<;>cases (top==[48])<;>cases (bot==[49])<;>cases two<;>simp [h1,N]) with ⟨Y,ae⟩ | ⟨Y,ae⟩ | ⟨Y,aq,az⟩ | ⟨Y,⟨aq,az⟩,N⟩ | ⟨Y,⟨aq,az⟩,N⟩
     . have N:two=true:=by
        cases two with
        | true=>rfl
        | false=>rw [hbn rfl] at ae;cases ae
       have he:zk l=(0,6):=zDU hcut (.inr (.inr ⟨N,.inr (.inr (gC ae))⟩));refine rI (K1 (zAk rfl rfl ?_));rw [Y];refine mv (K3 (K3 (K3 (K3 (K3 (pc0 rfl (mv (K7 (K2 (zAk rfl rfl ?_))))))))));rw [ae];refine pc0 rfl (rs [2,5,6,7,8,64] ?_);refine wct rfl (rj (K1 (zV (cs := #[.int .i64 0,.slice none 0 0,.slice none 0 0]) kR (K1 (runs_rstoreK rfl IsR.zero (Cell3.of z rfl) fun _ w9 V C => ?_)))));replace E0:=E0.upd V H;obtain ⟨X,D,F,C⟩:=C;refine ag (rM 300 ?_);refine zE (zAP (zM ?_));exact ⟨rfl,_,za rfl rfl rfl rfl zAS D F,E0,_,by rw [he];rfl,by rw [he];exact C⟩
     . have ah:¬ (top=[48]/\(below l=true\/two=true)):=fun h=>by rw [h.1] at Y;cases Y
       have Z:two=true->bot≠[49]:=fun _ e=>by rw [e] at ae;cases ae
       refine rI (K1 (zAk rfl rfl ?_));rw [Y];refine mv (K3 (K3 (K3 (K3 (K3 (pc0 rfl (mv (K7 (K2 (zAk rfl rfl ?_))))))))));rw [ae];refine pc0 rfl (rs [2,5,6,7,8,64] ?_);exact wcf rfl (zw (zL ⟨rfl,(kp rfl),E0,z,ah,Z⟩))
     . have he:zk l=(0,6):=zDU hcut (.inr (.inl ⟨gC Y,.inl aq⟩));refine rI (K1 (zAk rfl rfl ?_));rw [Y];refine mv (K7 (K2 (zC (v := .bool true) rfl rfl (sB (cZ oM)) (K7 (K3 (K2 (zAB rfl (pc0 rfl (mv (K3 (K3 (pc0 rfl (rs [2,5,6,7,8,64] ?_)))))))))))));refine wct rfl (rj (K1 (zV (cs := #[.int .i64 0,.slice none 0 0,.slice none 0 0]) kR (K1 (runs_rstoreK rfl IsR.zero (Cell3.of z rfl) fun _ w9 V C => ?_)))));replace E0:=E0.upd V H;obtain ⟨X,D,F,C⟩:=C;refine ag (rM 300 ?_);refine zE (zAP (zM ?_));exact ⟨rfl,_,za rfl rfl rfl rfl zAS D F,E0,_,by rw [he];rfl,by rw [he];exact C⟩
     . subst N;have he:zk l=(0,6):=zDU hcut (.inr (.inl ⟨gC Y,.inr rfl⟩));refine rI (K1 (zAk rfl rfl ?_));rw [Y];refine mv (K7 (K2 (zC (v := .bool false) rfl rfl (sB (cU oM)) (K7 (K7 (K2 (zAB rfl (pc0 rfl (mv (K3 (K3 (pc0 rfl (rs [2,5,6,7,8,64] ?_)))))))))))));refine wct rfl (rj (K1 (zV (cs := #[.int .i64 0,.slice none 0 0,.slice none 0 0]) kR (K1 (runs_rstoreK rfl IsR.zero (Cell3.of z rfl) fun _ w9 V C => ?_)))));replace E0:=E0.upd V H;obtain ⟨X,D,F,C⟩:=C;refine ag (rM 300 ?_);refine zE (zAP (zM ?_));exact ⟨rfl,_,za rfl rfl rfl rfl zAS D F,E0,_,by rw [he];rfl,by rw [he];exact C⟩
     . subst N;have ae:(bot==[49])=false:=by rw [hbn rfl];rfl
       have ah:¬ (top=[48]/\(below l=true\/false=true)):=fun h=>by rcases h.2 with h | h<;>simp_all
       have Z:false=true->bot≠[49]:=fun h=>by cases h
       refine rI (K1 (zAk rfl rfl ?_));rw [Y];refine mv (K7 (K2 (zC (v := .bool false) rfl rfl (sB (cU oM)) (K7 (K7 (K2 (zAB rfl (pc0 rfl (mv (K7 (K2 (zAk rfl rfl ?_))))))))))));rw [ae];refine pc0 rfl (rs [2,5,6,7,8,64] ?_);exact wcf rfl (zw (zL ⟨rfl,(kp rfl),E0,z,ah,Z⟩))
   . skip
     rintro aE w2 ⟨hk,E0,z,ah,Z⟩;refine wpe_k _ hk ?_;refine zA (zA ?_);rcases (oM:1000<top.length\/(¬ 1000<top.length/\1000<bot.length)\/(¬ 1000<top.length/\¬ 1000<bot.length)) with k1 | ⟨k1,k2⟩ | ⟨k1,k2⟩
     . have he:zk l=(0,3):=by rw [zNJ hcut L ah (fun h=>⟨aa h,Z h⟩),cD (.inl k1)]
       refine rI (K1 (zAD zAM rfl (K1 (zC (v := .bool true) rfl rfl (sB (cZ oM)) (mv (K3 (K3 (K3 (pc0 rfl (rs [2,5,6,7,8,73] ?_))))))))));refine wct rfl (rj (K1 (zV (cs := #[.int .i64 0,.slice none 0 0,.slice none 0 0]) kR (K1 (runs_rstoreK rfl IsR.zero (Cell3.of z rfl) fun _ w9 V C => ?_)))));replace E0:=E0.upd V H;obtain ⟨X,D,F,C⟩:=C;refine ag (rM 300 ?_);refine zE (zU (zM ?_));exact ⟨rfl,_,za rfl rfl rfl rfl zAS D F,E0,_,by rw [he];rfl,by rw [he];exact C⟩
     . have he:zk l=(0,3):=by rw [zNJ hcut L ah (fun h=>⟨aa h,Z h⟩),cD (.inr k2)]
       refine rI (K1 (zAD zAM rfl (K1 (zC (v := .bool false) rfl rfl (sB (cU oM)) (mv (K7 (K2 (zAD zAM rfl (K2 (zC (v := .bool true) rfl rfl (sB (cZ oM)) (pc0 rfl (rs [2,5,6,7,8,73] ?_))))))))))));refine wct rfl (rj (K1 (zV (cs := #[.int .i64 0,.slice none 0 0,.slice none 0 0]) kR (K1 (runs_rstoreK rfl IsR.zero (Cell3.of z rfl) fun _ w9 V C => ?_)))));replace E0:=E0.upd V H;obtain ⟨X,D,F,C⟩:=C;refine ag (rM 300 ?_);refine zE (zU (zM ?_));exact ⟨rfl,_,za rfl rfl rfl rfl zAS D F,E0,_,by rw [he];rfl,by rw [he];exact C⟩
     . have am:=zNJ hcut L ah (fun h=>⟨aa h,Z h⟩);rw [ct oM] at am;refine rI (K1 (zAD zAM rfl (K1 (zC (v := .bool false) rfl rfl (sB (cU oM)) (mv (K7 (K2 (zAD zAM rfl (K2 (zC (v := .bool false) rfl rfl (sB (cU oM)) (pc0 rfl (rs [2,5,6,7,8,73] ?_))))))))))));refine wcf rfl (sk (zA (zA ?_)));cases hw:two
       . subst hw;have he:zk l=(qOf (below l) (natS top) 1,0):=by rw [am,cD rfl]
         refine rI (K1 (zp rfl (rs [2,5,6,7,8,76] ?_)));refine wct rfl (rJ (mv (K1 (j1 E0 z.ext yB (zIn oM (zBP L)) fun aH w4 E0 z N1=>K1 (j2 E0 z.ext N1.ext yB (zHG _) fun v10_3 w5 E0 z N1 N2 => ?_)))));refine K1 (j3 E0 z.ext N1.ext N2.ext yB (zGQ oM N1 N2 dE (zKT oM (zBP L)) (by unfold Fits;decide +kernel)) fun v10_4 w6 E0 z N1 N2 N3 => ?_);rw [ct oM,ay] at N3;refine K1 (runs_rstoreK rfl N3 (Cell3.of z rfl) fun _ w9 V C => ?_);replace E0:=E0.upd V H;obtain ⟨X,D,F,C⟩:=C;refine ag (rM 300 ?_);refine zE (zU (zM ?_));exact ⟨rfl,_,za rfl rfl rfl rfl zAS D F,E0,_,by rw [he];rfl,by rw [he];exact C⟩
       . subst hw;rw [ct dE] at am;obtain ⟨⟨an,aA⟩,-⟩:(zAb bot=true/\bot≠[48])/\bot≠[49]:=⟨aa rfl,Z rfl⟩;have ad:=(zFZ an (dk.2 aA)).1;have ha0:natS top≠0:=(zFZ L (dk.2 (fun e=>ah ⟨e,.inr rfl⟩))).1;have hfa:=zKT oM (zBP L);have hfb:=zKT oM (zBP an);refine rI (K1 (zp rfl (rs [2,5,6,7,8,76] ?_)));refine wcf rfl (sk (rJ (K1 (j1 E0 z.ext yB (zIn oM (zBP L)) fun va w4 E0 z N1=>mv (K1 (j2 E0 z.ext N1.ext yB (zIn oM (zBP an)) fun vb w5 E0 z N1 N2=>ag (ag (rM 1828 ?_))))))));refine zA (rJ (mv (K1 (j3 E0 z.ext N1.ext N2.ext yB (zFO N1 N2 hfa hfb ad) fun v12_2 w6 E0 z N1 N2 N3=>K1 (j4 E0 z.ext N1.ext N2.ext N3.ext yB (zCZ N3) fun v12_3 w7 E0 z N1 N2 N3 J => ?_)))));subst J;refine K1 (zp rfl (rm [2,5,8,9,10,90] ?_));refine K0 rfl ?_ ?_<;>intro hc
         . have hg:Nat.gcd (natS top) (natS bot)≠1:=by simpa using hc
           have he:zk l=(0,6):=by rw [am,cD hg]
           refine rj (K1 (zV (cs := #[.int .i64 0,.slice none 0 0,.slice none 0 0]) kR (K1 (runs_rstoreK rfl IsR.zero (Cell3.of z rfl) fun _ w9 V C => ?_))));replace E0:=E0.upd V H;obtain ⟨X,D,F,C⟩:=C;refine ag (rM 300 ?_);refine zE (zU (zM ?_));exact ⟨rfl,_,za rfl rfl rfl rfl zAS D F,E0,_,by rw [he];rfl,by rw [he];exact C⟩
         . have hg:Nat.gcd (natS top) (natS bot)=1:=by simpa using hc
           have he:zk l=(qOf (below l) (natS top) (natS bot),0):=by rw [am,ct (fun h=>h hg)]
           refine sk (rJ (mv (mv ?_)));have M:=IsR.mkS (s:=s) oM ha0 ad (by rw [hg,fI];exact N1) (by rw [hg,fI];exact N2);rw [ay] at M;obtain ⟨p1,aF,k1,rfl,-⟩:=N1;obtain ⟨p2,aG,k2,rfl,-⟩:=N2;refine K1 (zV (cs := #[.int .i64 s,.slice p1 aF.length k1,.slice p2 aG.length k2]) kR (K1 (runs_rstoreK rfl M (Cell3.of z rfl) fun _ w9 V C => ?_)));replace E0:=E0.upd V H;obtain ⟨X,D,F,C⟩:=C;refine ag (rM 300 ?_);refine zE (zM ?_);exact ⟨rfl,_,za rfl rfl rfl rfl zAS D F,E0,_,by rw [he];rfl,by rw [he];exact C⟩
end Go.Proofs.YtjiendlfobjanaaGreatDoor.R
namespace Go.Proofs.YtjiendlfobjanaaGreatDoor.R
open Go Go.RowKit Go.Proofs Tryz
variable {A A':List Rat} {K:Value->World->Prop} {T ty:TypeId} {af:Array Edge} {b c i sz' sz0 sz2:Nat} {cs:List Value} {g:Option (Nat×Bool)} {pos:String} {r:Option Nat} {v:Value} {w w' w0:World} {σ:Operand->Value}
theorem zCr:prog.underlying 26=some (.slice 50):=kR
theorem slice26:zBH prog 26 50 3:=by unfold zBH;exact ⟨kR,kR⟩
theorem zKc:(prog.info? 50).map (fun i=>(i.zero,i.size,i.bytes))=some (some (.agg #[.int .i64 0,.slice none 0 0,.slice none 0 0]),3,56):=kR
theorem info50':(prog.info? 50).map (fun i=>(i.zero,i.size))=some (some (.agg #[.int .i64 0,.slice none 0 0,.slice none 0 0]),3):=kR
theorem noR1 (e:Blk w b T cs) (h:T≠2):NoR [b] w:=fun c s=>by
 rw [dI.1 s];exact ⟨T,cs,e,h⟩
def AccP (sz:Nat) (w:World) (v:Value) (A:List Rat):Prop :=
 ∃ p c,v = .slice p A.length c/\A.length<=c/\((A=[]/\p=none/\c=0)\/∃ b cs,p=some ⟨b,0,none⟩/\sz<=b/\Blk w b 50 cs/\cs.length=3*c/\∀ i,i<A.length->IsR w (.agg ((cs.drop (3*i)).take 3).toArray) (A.getD i 0))
theorem AccP.nil {sz:Nat}:AccP sz w (.slice none 0 0) []:=⟨none,0,rfl,cX _,.inl ⟨rfl,rfl,rfl⟩⟩
theorem AccP.ext {sz:Nat} (h:AccP sz w v A) (s:Ext w w'):AccP sz w' v A:=by
 obtain ⟨p,c,z,C,e⟩:=h;refine ⟨p,c,z,C,?_⟩;rcases e with e | ⟨b,cs,D,F,G,H,I⟩
 . exact .inl e
 . exact .inr ⟨b,cs,D,F,G.ext s,H,fun i J=>(I i J).ext s⟩
theorem AccP.new {sz:Nat} (h:AccP sz w v A) (G:w.heap.size<=c):∀ b k,v = .slice (some ⟨b,0,none⟩) A.length k->b≠c:=fun b k e=>by
 obtain ⟨p,H,s,I,F⟩:=h;rcases F with ⟨z,C,D⟩ | ⟨J,cs',z,C,D,L,M⟩
 . rw [s,C] at e;cases e
 . rw [s,z] at e;cases e;have:=D.lt;omega
def AccB (b c:Nat) (w:World) (A:List Rat):Prop:=∃ cs,Blk w b 50 cs/\cs.length=3*c/\∀ i,i<A.length->IsR w (.agg ((cs.drop (3*i)).take 3).toArray) (A.getD i 0)
theorem AccP.cases {sz:Nat} (h:AccP sz w v A) :
 (∃ b c,v = .slice (some ⟨b,0,none⟩) A.length c/\A.length+1<=c/\sz<=b/\AccB b c w A)\/(∃ p c,v = .slice p A.length c/\c<A.length+1):=by
 obtain ⟨p,c,e,I,D⟩:=h;by_cases F:A.length+1<=c
 . rcases D with ⟨s,z,C⟩ | ⟨b,cs,s,z,C,G,H⟩
   . omega
   . exact .inl ⟨b,c,by rw [e,s],F,z,cs,C,G,H⟩
 . exact .inr ⟨p,c,e,oM⟩
theorem AccB.acc {sz:Nat} (h:AccB b c w A) (e:sz<=b) (s:A.length<=c):AccP sz w (.slice (some ⟨b,0,none⟩) A.length c) A:=by
 obtain ⟨cs,z,C,D⟩:=h;exact ⟨_,c,rfl,s,.inr ⟨b,cs,rfl,e,z,C,D⟩⟩
theorem AccB.now (h:AccB b c w A):NoR [b] w:=by obtain ⟨cs,e,_⟩:=h;exact noR1 e dE
def OneR (sz:Nat) (q:Rat) (v:Value) (w:World):Prop:=∃ b e h s,v = .slice (some ⟨b,0,none⟩) 1 1/\sz<=b/\Blk w b 50 [e,h,s]/\IsR w (.agg #[e,h,s]) q
theorem OneR.ext {sz:Nat} {q:Rat} (h:OneR sz q v w) (e:Ext w w'):OneR sz q v w':=by
 obtain ⟨b,s,z,C,D,F,G,H⟩:=h;exact ⟨b,s,z,C,D,F,G.ext e,H.ext e⟩
section laws
variable {d:Option Tmp}
theorem runs_one {sz:Nat} {y:Operand} {q:Rat} (h:IsR w (σ y) q) (D:sz<=w.heap.size):Runs prog r ⟨d,.buildSlice 26 1 #[(0,y)],ty,pos,af,g⟩ σ w (fun v w'=>Ext w w'/\OneR sz q v w'):=by
 have e:=h;obtain ⟨n,z,he,F,G⟩:=h;rw [he] at e;refine zi (cs:=[.int .i64 q.num.sign,n,z]) zCr info50' dE dE ?_ fun b w' hb s C hs'=>⟨s,b,_,_,_,rfl,oM,C,e.ext s⟩;show Instr.fill _ _ [(0,σ y)]=_;rw [he]
 kernel_rfl
theorem runs_appE_in {x y:Operand} {sz:Nat} {q:Rat} (F:σ x = .slice (some ⟨b,0,none⟩) A.length c) (G:A.length+1<=c) (H:AccB b c w A) (I:OneR sz q (σ y) w) :
 Runs prog r ⟨d,.call { callee := .builtin .append,args := #[x,y],argTypes := #[26,26] },ty,pos,af,g⟩ σ w (fun v w'=>ExtS [b] w w'/\AccB b c w' (A++[q])/\v = .slice (some ⟨b,0,none⟩) (A++[q]).length c):=by
 obtain ⟨cs,s,J,L⟩:=H;obtain ⟨b2,M,N,U,V,_,X,C⟩:=I;have hok:[M,N,U].all zDT=true:=by
  obtain ⟨n,dd,he,Y,Z⟩:=C;obtain ⟨p1,ad,k1,rfl,-⟩:=Y;obtain ⟨p2,ae,k2,rfl,-⟩:=Z;cases he;rfl
 refine zAz (n:=3) zCr zCr zKc F V s (Cells.blk X) rfl G oM hok fun w' z D=>⟨z.toS sM,?_,sM⟩;rw [dW,show A.length*3=3*A.length from by omega] at D;refine ⟨_,D,by rw [zAu];exact J,fun i hi => ?_⟩;by_cases hi':i<A.length
 . rw [zBb oM,ct oM,zEV hi'];exact (L i hi').upd z s dE
 . have:i=A.length:=by simp at hi;omega
   subst this;rw [zBb oM,cD rfl,zEW];exact C.upd z s dE
theorem runs_appE_grow {x y:Operand} {p:Option Addr} {sz:Nat} {q:Rat} (J:σ x = .slice p A.length c) (L:AccP sz0 w (.slice p A.length c) A) (hc:c<A.length+1) (M:OneR sz2 q (σ y) w) (hl:A.length<4096) (N:sz<=w.heap.size) :
 Runs prog r ⟨d,.call { callee := .builtin .append,args := #[x,y],argTypes := #[26,26] },ty,pos,af,g⟩ σ w (fun v w'=>Ext w w'/\AccP sz w' v (A++[q])):=by
 obtain ⟨b2,c1,c2,c3,h,_,C,U⟩:=M;obtain ⟨p',D,V,h2,X⟩:=L;cases V;have hnew:=zAc (A.length+1) c;have hold:∃ old,Cells w p 50 old/\old.length=A.length*3/\∀ i,i<A.length->IsR w (.agg ((old.drop (3*i)).take 3).toArray) (A.getD i 0):=by
  rcases X with ⟨h,C,H⟩ | ⟨b,cs,h,C,H,e4,Y⟩
  . subst h;exact ⟨[],.inl rfl,rfl,fun i s=>by simp at s⟩
  . refine ⟨cs.take (A.length*3),.inr ⟨b,0,cs,h,H,sM⟩,by simp;omega,fun i s => ?_⟩;have:=Y i s;rwa [show ((cs.take (A.length*3)).drop (3*i)).take 3=(cs.drop (3*i)).take 3 from by
     rw [gy,gM,dT oM]]
 obtain ⟨old,Z,I,o3⟩:=hold;refine zAW zCr zCr zKc rfl dE J h Z I (Cells.blk C) rfl oM oM fun w' rest D g1 F hB g2 _=>⟨F,?_⟩;have G:rest.length=(D-(A.length+1))*3:=by rw [g2];simp [Builtin.zeroCells,Value.cells]
 refine ⟨_,D,sM,by simpa using g1,.inr ⟨w.heap.size,_,rfl,N,hB,by simp [I,G];omega,fun i s => ?_⟩⟩;by_cases hi':i<A.length
 . rw [zEV hi',dU,zDK oM];exact (o3 i hi').ext F
 . have:i=A.length:=by simp at s;omega
   subst this;rw [zEW,dU,fA oM,eJ oM];simpa using U.ext F
theorem runs_rAt {x:Operand} {q:Rat} (e:σ x = .pointer (some ⟨b,0,none⟩)) (h:RAt b q w) (s:∀ v,IsR w v q->K v w):Runs prog r ⟨d,.load 50 x,ty,pos,af,g⟩ σ w K:=by
 obtain ⟨cs,z,D,C⟩:=h;refine zh (o:=0) zAS e z oM ?_;rw [eT,dF oM];exact s _ C
end laws
theorem RAt.extS {S:List Nat} {q:Rat} (h:RAt b q w) (e:ExtS S w w') (s:b ∉ S) (z:NoR S w):RAt b q w':=by
 obtain ⟨cs,C,D,F⟩:=h;exact ⟨cs,C.extS e s,D,F.extS e z⟩
theorem AccP.updT {sz:Nat} (h:AccP sz w v A) (z:Upd c w w') (F:Blk w c T cs) (G:T≠2) (s:∀ b k,v = .slice (some ⟨b,0,none⟩) A.length k->b≠c):AccP sz w' v A:=by
 obtain ⟨p,k,C,H,e⟩:=h;refine ⟨p,k,C,H,?_⟩;rcases e with e | ⟨b,cs',D,I,J,L,M⟩
 . exact .inl e
 . exact .inr ⟨b,cs',D,I,J.upd z (s b k (by rw [C,D])),L,fun i N=>(M i N).upd z F G⟩
theorem AccP.extS {S:List Nat} {sz:Nat} (h:AccP sz w v A) (z:ExtS S w w') (F:NoR S w) (s:∀ b k,v = .slice (some ⟨b,0,none⟩) A.length k->b ∉ S):AccP sz w' v A:=by
 obtain ⟨p,k,C,G,e⟩:=h;refine ⟨p,k,C,G,?_⟩;rcases e with e | ⟨b,cs',D,H,I,J,L⟩
 . exact .inl e
 . exact .inr ⟨b,cs',D,H,I.extS z (s b k (by rw [C,D])),J,fun i M=>(L i M).extS z F⟩
theorem AccP.fresh {S:List Nat} {sz:Nat} (h:AccP sz w v A) (z:ExtS S w w') (C:NoR S w) (s:∀ b∈S,b<sz):AccP sz w' v A:=by
 obtain ⟨p,k,D,F,e⟩:=h;refine ⟨p,k,D,F,?_⟩;rcases e with e | ⟨b,cs',G,H,I,J,L⟩
 . exact .inl e
 . exact .inr ⟨b,cs',G,H,I.extS z (fun M=>by have:=s b M;omega),J,fun i N=>(L i N).extS z C⟩
theorem AccP.sz {sz:Nat} (h:AccP sz w v A) (s:sz'<=sz):AccP sz' w v A:=by
 obtain ⟨p,k,z,C,e⟩:=h;refine ⟨p,k,z,C,?_⟩;rcases e with e | ⟨b,cs',D,F,G⟩
 . exact .inl e
 . exact .inr ⟨b,cs',D,dz s F,G⟩
theorem OneR.extSS {S:List Nat} {sz:Nat} {q:Rat} (h:OneR sz q v w) (e:ExtS S w w') (s:∀ b∈S,b<sz) (z:NoR S w):OneR sz q v w':=by
 obtain ⟨C,D,F,G,H,I,J,L⟩:=h;exact ⟨C,D,F,G,H,I,J.extS e (fun h=>by have:=s _ h;omega),L.extS e z⟩
theorem AccB.extO {S:List Nat} {L:List Rat} (h:AccB b c w L) (e:ExtS S w w') (s:NoR S w) (he:w'.heap[b]? = w.heap[b]?):AccB b c w' L:=by
 obtain ⟨cs,z,C,D⟩:=h;exact ⟨cs,by show w'.heap[b]? = _;rw [he];exact z,C,fun i F=>(D i F).extS e s⟩
theorem accStOkS {S:List Nat} (z:AccB b c w0 A) (C:NoR S w0) :
 (⟨i,b,fun w=>AccB b c w A,fun w=>AccB b c w A'⟩:StoreSpec).blk<w0.heap.size/\(⟨i,b,fun w=>AccB b c w A,fun w=>AccB b c w A'⟩:StoreSpec).pre w0/\∀ w w',ExtS S w0 w->ExtS S w w'->w'.heap[(⟨i,b,fun w=>AccB b c w A,fun w=>AccB b c w A'⟩:StoreSpec).blk]? = w.heap[(⟨i,b,fun w=>AccB b c w A,fun w=>AccB b c w A'⟩:StoreSpec).blk]? ->
  ((⟨i,b,fun w=>AccB b c w A,fun w=>AccB b c w A'⟩:StoreSpec).pre w->(⟨i,b,fun w=>AccB b c w A,fun w=>AccB b c w A'⟩:StoreSpec).pre w')/\((⟨i,b,fun w=>AccB b c w A,fun w=>AccB b c w A'⟩:StoreSpec).post w->(⟨i,b,fun w=>AccB b c w A,fun w=>AccB b c w A'⟩:StoreSpec).post w'):=by
 have s:b<w0.heap.size:=by obtain ⟨cs,e,_⟩:=z;exact e.lt
 exact ⟨s,z,fun w w' e D he=>⟨fun h=>h.extO D (C.ext e) he,fun h=>h.extO D (C.ext e) he⟩⟩
theorem AccB.blk (h:AccB b c w A):∃ cs,Blk w b 50 cs:=by obtain ⟨cs,e,_⟩:=h;exact ⟨cs,e⟩
end Go.Proofs.YtjiendlfobjanaaGreatDoor.R
namespace Go.Proofs.YtjiendlfobjanaaGreatDoor
open Go Go.RowKit Go.Proofs Tryz
theorem AccP.updT {sz c:Nat} {w w':World} {v:Value} {A:List Rat} {T:TypeId} {cs:List Value} (h:AccP sz w v A) (z:Upd c w w') (F:Blk w c T cs) (G:T≠164) (s:∀ b k,v = .slice (some ⟨b,0,none⟩) A.length k->b≠c):AccP sz w' v A:=by
 obtain ⟨p,k,C,H,e⟩:=h;refine ⟨p,k,C,H,?_⟩;rcases e with e | ⟨b,cs',D,I,J,L,M⟩
 . exact .inl e
 . exact .inr ⟨b,cs',D,I,J.upd z (s b k (by rw [C,D])),L,fun i N=>(M i N).upd z F G⟩
theorem AccP.extS {S:List Nat} {sz:Nat} {w w':World} {v:Value} {A:List Rat} (h:AccP sz w v A) (z:ExtS S w w') (F:NoW S w) (s:∀ b k,v = .slice (some ⟨b,0,none⟩) A.length k->b ∉ S):AccP sz w' v A:=by
 obtain ⟨p,k,C,G,e⟩:=h;refine ⟨p,k,C,G,?_⟩;rcases e with e | ⟨b,cs',D,H,I,J,L⟩
 . exact .inl e
 . exact .inr ⟨b,cs',D,H,I.extS z (s b k (by rw [C,D])),J,fun i M=>(L i M).extS z F⟩
theorem AccP.fresh {S:List Nat} {sz:Nat} {w w':World} {v:Value} {A:List Rat} (h:AccP sz w v A) (z:ExtS S w w') (C:NoW S w) (s:∀ b∈S,b<sz):AccP sz w' v A:=by
 obtain ⟨p,k,D,F,e⟩:=h;refine ⟨p,k,D,F,?_⟩;rcases e with e | ⟨b,cs',G,H,I,J,L⟩
 . exact .inl e
 . exact .inr ⟨b,cs',G,H,I.extS z (fun M=>by have:=s b M;omega),J,fun i N=>(L i N).extS z C⟩
theorem AccP.szle {sz sz':Nat} {w:World} {v:Value} {A:List Rat} (h:AccP sz w v A) (s:sz'<=sz):AccP sz' w v A:=by
 obtain ⟨p,k,z,C,e⟩:=h;refine ⟨p,k,z,C,?_⟩;rcases e with e | ⟨b,cs',D,F,G⟩
 . exact .inl e
 . exact .inr ⟨b,cs',D,dz s F,G⟩
theorem OneR.extSS {S:List Nat} {sz:Nat} {q:Rat} {v:Value} {w w':World} (h:OneR sz q v w) (e:ExtS S w w') (s:∀ b∈S,b<sz) (z:NoW S w):OneR sz q v w':=by
 obtain ⟨C,D,F,G,H,I,J,L⟩:=h;exact ⟨C,D,F,G,H,I,J.extS e (fun h=>by have:=s _ h;omega),L.extS e z⟩
theorem AccB.extO {S:List Nat} {b c:Nat} {w w':World} {L:List Rat} (h:AccB b c w L) (e:ExtS S w w') (s:NoW S w) (he:w'.heap[b]? = w.heap[b]?):AccB b c w' L:=by
 obtain ⟨cs,z,C,D⟩:=h;exact ⟨cs,by show w'.heap[b]? = _;rw [he];exact z,C,fun i F=>(D i F).extS e s⟩
theorem accStOkS {S:List Nat} {i b c:Nat} {A A':List Rat} {w0:World} (z:AccB b c w0 A) (C:NoW S w0) :
 (⟨i,b,fun w=>AccB b c w A,fun w=>AccB b c w A'⟩:StoreSpec).blk<w0.heap.size/\(⟨i,b,fun w=>AccB b c w A,fun w=>AccB b c w A'⟩:StoreSpec).pre w0/\∀ w w',ExtS S w0 w->ExtS S w w'->w'.heap[(⟨i,b,fun w=>AccB b c w A,fun w=>AccB b c w A'⟩:StoreSpec).blk]? = w.heap[(⟨i,b,fun w=>AccB b c w A,fun w=>AccB b c w A'⟩:StoreSpec).blk]? ->
  ((⟨i,b,fun w=>AccB b c w A,fun w=>AccB b c w A'⟩:StoreSpec).pre w->(⟨i,b,fun w=>AccB b c w A,fun w=>AccB b c w A'⟩:StoreSpec).pre w')/\((⟨i,b,fun w=>AccB b c w A,fun w=>AccB b c w A'⟩:StoreSpec).post w->(⟨i,b,fun w=>AccB b c w A,fun w=>AccB b c w A'⟩:StoreSpec).post w'):=by
 have s:b<w0.heap.size:=by obtain ⟨cs,e,_⟩:=z;exact e.lt
 exact ⟨s,z,fun w w' e D he=>⟨fun h=>h.extO D (C.ext e) he,fun h=>h.extO D (C.ext e) he⟩⟩
theorem AccB.blk {b c:Nat} {w:World} {A:List Rat} (h:AccB b c w A):∃ cs,Blk w b 37 cs:=by obtain ⟨cs,e,_⟩:=h;exact ⟨cs,e⟩
theorem all2 {α:Type} {p:α->Prop} {a b:α} (h:p a) (z:p b):∀ s∈[a,b],p s:=fun s e=>by
 rcases eY.1 e with rfl | e
 . exact h
 . rw [dI.1 e];exact z
theorem Ext.updSS {S:List Nat} {w s z:World} (h:Ext w s) (e:ExtS S s z) (D:∀ b∈S,w.heap.size<=b):Ext w z :=
 ⟨e.os.trans (Below.os h),e.tape.trans (Below.tape h),e.output.trans (Below.output h),dz h.size e.size,fun k C=>(e.block k (fm C h.size) (fun F=>by have:=D k F;omega)).trans (Below.block h k C)⟩
end Go.Proofs.YtjiendlfobjanaaGreatDoor
namespace Go.Proofs.YtjiendlfobjanaaGreatDoor
open Go Go.RowKit Go.Proofs Tryz
set_option maxRecDepth 10000
set_option maxHeartbeats 2000000
attribute [local irreducible] Runs WPE CallK Ret
variable {A:List Rat} {E a b c cap i ix len:Nat} {K:Value->World->Prop} {P:Program} {T T' ty:TypeId} {af:Array Edge} {cs cs':List Value} {g:Option (Nat×Bool)} {pos:String} {r:Option Nat} {v:Value} {w w':World} {σ:Operand->Value}
def IsVs (w:World) (v:Value) (L:List (List UInt8)):Prop:=∃ p cap,v = .slice p L.length cap/\L.length<=cap/\∀ i,i<L.length->∃ a:Addr,p=some a/\a.block<w.heap.size/\w.cell? (a.add i)=some (S (L.getD i []))
theorem zNp (a:Addr) (i:Nat):(a.add i).block=a.block:=by unfold Addr.add;split<;>rfl
theorem zCC {a:Addr} (e:Ext w w') (s:a.block<w.heap.size) (h:w.cell? (a.add i)=some v):w'.cell? (a.add i)=some v:=by
 rw [Below.cell e (by rw [zNp];exact s)];exact h
theorem IsVs.ext {L:List (List UInt8)} (h:IsVs w v L) (e:Ext w w'):IsVs w' v L:=by
 obtain ⟨p,cap,z,C,D⟩:=h;refine ⟨p,cap,z,C,fun i F => ?_⟩;obtain ⟨a,G,s,H⟩:=D i F;exact ⟨a,G,fm s e.size,zCC e s H⟩
section laws
variable {d:Option Tmp}
theorem zAQ {T:Nat} {x i:Operand} {p:Option Addr} {a:Addr} {k:IntKind} (h:zBH P T E 1) (s:p=some a) (z:σ x = .slice p len cap) (C:σ i = .int k (ix:Int)) (D:ix<len) (F:K (.pointer (some (a.add ix))) w):Runs P r ⟨d,.indexAddr T x i,ty,pos,af,g⟩ σ w K:=by
 subst s;refine zy (fun _ e=>by cases e) ?_ F;simp [execOp,Instr.indexAt,run_underlying h.1,z,C,asIntOf,D,run_sizeOf' h.2]
theorem zBF {x:Operand} {a:Addr} (h:Plain P T) (s:σ x = .pointer (some a)) (z:w.cell? a=some v) (C:K v w):Runs P r ⟨d,.load T x,ty,pos,af,g⟩ σ w K :=
 zy (fun _ e=>by cases e) (by simp [execOp,Instr.loadAt,Instr.sureAddr,s,loadVar,h.isAgg,z]) C
end laws
def numsS (L:List (List UInt8)):List Rat:=L.map fun t=>(zk t).1
theorem zDy {L:List (List UInt8)} (h:i<L.length):numsS (L.take (i+1))=numsS (L.take i)++[(zk (L.getD i [])).1]:=by
 unfold numsS;rw [dG h,eK,cC,cY h];rfl
theorem zJo (L:List (List UInt8)) (i:Nat):(numsS (L.take i)).length=min i L.length:=by simp [numsS]
theorem zDo:zBH prog 22 52 1:=pU
theorem NumAt.updT {q:Rat} (h:NumAt b q w) (s:Upd c w w') (z:Blk w c T cs) (C:T≠164) (e:b≠c):NumAt b q w':=by
 obtain ⟨cs',D,F,G⟩:=h;exact ⟨cs',D.upd s e,F,G.upd s z C⟩
theorem AccP.neT {sz q:Nat} (h:AccP sz w v A) (D:Blk w q T cs) (F:T≠37):∀ b k,v = .slice (some ⟨b,0,none⟩) A.length k->b≠q:=fun b k e=>by
 obtain ⟨p,c,G,I,H⟩:=h;rw [G] at e;rcases H with ⟨s,z,C⟩ | ⟨J,cs',s,z,C,L,M⟩
 . rw [z] at e;cases e
 . rw [s] at e;cases e;intro hb;subst hb;exact F (D.inj C).1
theorem R.AccP.neT {sz q:Nat} (h:R.AccP sz w v A) (D:Blk w q T cs) (F:T≠50):∀ b k,v = .slice (some ⟨b,0,none⟩) A.length k->b≠q:=fun b k e=>by
 obtain ⟨p,c,G,I,H⟩:=h;rw [G] at e;rcases H with ⟨s,z,C⟩ | ⟨J,cs',s,z,C,L,M⟩
 . rw [z] at e;cases e
 . rw [s] at e;cases e;intro hb;subst hb;exact F (D.inj C).1
theorem noW2 (h:Blk w a T cs) (s:Blk w b T' cs') (z:T≠164) (C:T'≠164):NoW [a,b] w:=fun c e=>by
 rcases eY.1 e with rfl | e
 . exact ⟨T,cs,h,z⟩
 . rw [dI.1 e];exact ⟨T',cs',s,C⟩
theorem noR2 (h:Blk w a T cs) (s:Blk w b T' cs') (z:T≠2) (C:T'≠2):R.NoR [a,b] w:=fun c e=>by
 rcases eY.1 e with rfl | e
 . exact ⟨T,cs,h,z⟩
 . rw [dI.1 e];exact ⟨T',cs',s,C⟩
theorem zPT {L:List (List UInt8)} (hv:IsVs w v L) (aJ:∀ i,i<L.length->(L.getD i []).length<1000000000) (a0:L.length<=4096):Ret prog 15 #[v] w (fun r w'=>∃ u t,r = .tuple #[u,t]/\AccP w.heap.size w' u (numsS L)/\R.AccP w.heap.size w' t (numsS L)):=by
 obtain ⟨pl,cl,rfl,a9,aK⟩:=hv;have E0:Ext w w:=Ext.refl w;refine J0 43 func15 rfl (rj (ag (ag (rM 1 ?_))));refine rj (ag (rM 17 ?_));refine rj (ag (rM 49 ?_));refine zA (rj (ag (rM 113 ?_)));refine zF (zX (X:=Nat) (fun i ρ w'=>∃ vp vq,Keep ρ [(0,.slice pl L.length cl),(4,vp),(5,vq),(6,.int .i64 (i:Nat))]/\i<=L.length/\Ext w w'/\AccP w.heap.size w' vp (numsS (L.take i))/\R.AccP w.heap.size w' vq (numsS (L.take i))) (fun i=>L.length-i) 0 ⟨_,_,(kp rfl),di _,E0,AccP.nil,R.AccP.nil⟩ ?_);rintro i ρ1 w1 ⟨vp,vq,s,ba,E0,J,M⟩;refine wpe_k _ s ?_;refine zA (rJ (mv (K1 (zG zDo rfl (K8 rfl (rM 16497 ?_))))));refine K0 rfl ?_ ?_<;>intro hc
 . have C:i<L.length:=t_lt hc;obtain ⟨a5,aA,aB,aC⟩:=aK i C;have hti:=aJ i C;refine sk (zA (zF (rJ (mv (K1 (zAQ zDo aA rfl rfl C (K1 (zBF zCz rfl (zCC E0 aB aC) (K1 (j2 E0 J.ext M.ext yB (Parse_ok hti) fun vu w1 E0 J M hr => ?_))))))))));obtain ⟨u1,rfl,ao⟩:=hr;refine mv (xt rfl (xt rfl ?_));refine K1 (zR zAt fun bc2 w7 hb hE hBc hs => ?_);have hgc:w.heap.size<=bc2:=by rw [hb];exact E0.size
   have ae:=J.new (c:=bc2) (dS hb.symm);have hnq2:=M.new (c:=bc2) (dS hb.symm);obtain ⟨E0,ao,J,M⟩:=V3 hE E0 ao.ext J.ext M.ext;refine K1 (zO rfl ao (Cell3.of hBc rfl) fun _ w9 hU F => ?_);replace E0:=E0.upd hU hgc;replace J:=J.upd hU hBc ae;replace M:=M.updT hU hBc dE hnq2;refine ag (rM 241 ?_);refine rJ (mv (K1 (zAQ zDo aA rfl rfl C (K1 (zBF zCz rfl (zCC E0 aB aC) (K1 (j3 E0 J.ext M.ext F.ext yB (R.Parse_ok hti) fun vu2 w2 E0 J M F hr => ?_)))))));obtain ⟨u2,rfl,ap⟩:=hr;refine mv (xt rfl (xt rfl ?_));refine K1 (zR R.zero50 fun Y w10 hb hE hBc hs => ?_);have hgc3:w.heap.size<=Y:=by rw [hb];exact E0.size
   have ah:=J.new (c:=Y) (dS hb.symm);have hnq3:=M.new (c:=Y) (dS hb.symm);have hn23:bc2≠Y:=by have:=F.lt;omega
   obtain ⟨E0,ap,J,M,F⟩:=V4 hE E0 ap.ext J.ext M.ext F.ext;refine K1 (R.runs_rstoreK rfl ap (R.Cell3.of hBc rfl) fun _ w11 hU hNR => ?_);replace E0:=E0.upd hU hgc3;replace J:=J.updT hU hBc dE ah;replace M:=M.updT hU hBc dE hnq3;replace F:=F.updT hU hBc dE hn23;refine ag (rM 753 ?_);generalize D:numsS (L.take i)=A at J M ae hnq2 ah hnq3;rcases J.cases with ⟨ab,ac,rfl,Z,aj,ak⟩ | ⟨aW,ac,rfl,Z⟩<;>rcases M.cases with ⟨N,qc,rfl,aa,al,am⟩ | ⟨qp,qc,rfl,aa⟩
   . have I:=E0.size;have hAl:A.length<=4095:=by rw [<- D,zJo];omega
     obtain ⟨aM,U⟩:=ak.blk;obtain ⟨aN,V⟩:=am.blk;have hpq:ab≠N:=fun e=>by subst e;exact absurd (U.inj V).1 dE
     have z:=noW2 U V dE dE;have hnr:=noR2 U V dE dE;have hltS:∀ b∈[ab,N],b<w11.heap.size:=all2 U.lt V.lt;have hn2:bc2 ∉ [ab,N]:=by have e1:=ae ab ac rfl;have e2:=hnq2 N qc rfl;simp only [eY,List.not_mem_nil,or_false,not_or];exact ⟨eH e1,eH e2⟩
     have ai:Y ∉ [ab,N]:=by have e1:=ah ab ac rfl;have e2:=hnq3 N qc rfl;simp only [eY,List.not_mem_nil,or_false,not_or];exact ⟨eH e1,eH e2⟩
     refine zAy false [⟨3,ab,fun w=>AccB ab ac w A,fun w=>AccB ab ac w (A++[(zk (L.getD i [])).1])⟩,⟨7,N,fun w=>R.AccB N qc w A,fun w=>R.AccB N qc w (A++[(zk (L.getD i [])).1])⟩] [[8],[14],[1],[5,1],[10],[18],[1],[5,1],[9],[3]] mixed kR (by simp [hpq]) (all2 (accStOkS ak z) (R.accStOkS am hnr)) fun K hK=>bM aL (bn z (fun hE s=>zW s.1 (F.extS hE hn2 z) fun _=>eX) (dbn (OneR w11.heap.size (zk (L.getD i [])).1) rfl (fun _ _ _ h1 hx h=>h.extSS hx hltS (z.ext h1)) (fun σ wx hE _ s=>runs_one s.1 hE.size) (des _ (fun v _=>v = .slice (some ⟨ab,0,none⟩) (A++[(zk (L.getD i [])).1]).length ac) rfl (fun _ _ _ _ _ h=>h) (fun σ wx hE hpre s=>runs_appE_in s.1 Z hpre s.2.1) (bM aL (dbn (fun v w'=>R.IsR w' v (zk (L.getD i [])).1) rfl (fun _ _ _ h1 hx h=>h.extS hx (hnr.ext h1)) (fun σ wx hE _ s=>R.runs_rAt s.1 (hNR.extS hE ai hnr) fun v h=>⟨Ext.refl _,h⟩) (dbn (R.OneR w11.heap.size (zk (L.getD i [])).1) rfl (fun _ _ _ h1 hx h=>h.extSS hx hltS (hnr.ext h1)) (fun σ wx hE _ s=>R.runs_one s.1 hE.size) (des _ (fun v _=>v = .slice (some ⟨N,0,none⟩) (A++[(zk (L.getD i [])).1]).length qc) rfl (fun _ _ _ _ _ h=>h) (fun σ wx hE hpre s=>R.runs_appE_in s.1 aa hpre s.2.1) (bv (fun hE s=>zr (eX s.1)) (bv (fun hE s=>zr (eX s.1)) (zAJ (hK _ fun wq hS hP => ?_)))))))))))
     rintro _ rfl aq ar au av _ rfl _ rfl aw ax ay az _ rfl _ rfl _ rfl;refine zY ?_;obtain ⟨G,H,-⟩:=hP;replace E0:=E0.updSS hS (all2 aj al);have G:=G.acc aj (show (A++[(zk (L.getD i [])).1]).length<=ac by rw [dN];exact Z);have H:=H.acc al (show (A++[(zk (L.getD i [])).1]).length<=qc by rw [dN];exact aa);refine zN (zK (K5 [0,4,5,6] ?_));refine rI (K8 rfl (ag (rl (zL ?_))));exact ⟨rfl,i+1,⟨_,_,kw,oM,E0,by rw [zDy C,D];exact G,by rw [zDy C,D];exact H⟩,oM⟩
   . have I:=E0.size;have hAl:A.length<=4095:=by rw [<- D,zJo];omega
     obtain ⟨aM,U⟩:=ak.blk;have z:=noW1 U dE;have hnr:=R.noR1 U dE;have hltS:∀ b∈[ab],b<w11.heap.size:=all1 U.lt;have hn2:bc2 ∉ [ab]:=nin1 (eH (ae ab ac rfl));have ai:Y ∉ [ab]:=nin1 (eH (ah ab ac rfl));have hneq:∀ b k,Value.slice qp A.length qc = .slice (some ⟨b,0,none⟩) A.length k->b ∉ [ab]:=fun b k e=>nin1 (M.neT U dE b k e)
     refine zAy false [⟨3,ab,fun w=>AccB ab ac w A,fun w=>AccB ab ac w (A++[(zk (L.getD i [])).1])⟩] [[8],[14],[1],[5,1],[10],[18],[1],[5,1],[9],[3]] mixed kR sM (all1 (accStOkS ak z)) fun K hK=>bM aL (bn z (fun hE s=>zW s.1 (F.extS hE hn2 z) fun _=>eX) (dbn (OneR w11.heap.size (zk (L.getD i [])).1) rfl (fun _ _ _ h1 hx h=>h.extSS hx hltS (z.ext h1)) (fun σ wx hE _ s=>runs_one s.1 hE.size) (des _ (fun v _=>v = .slice (some ⟨ab,0,none⟩) (A++[(zk (L.getD i [])).1]).length ac) rfl (fun _ _ _ _ _ h=>h) (fun σ wx hE hpre s=>runs_appE_in s.1 Z hpre s.2.1) (bM aL (dbn (fun v w'=>R.IsR w' v (zk (L.getD i [])).1) rfl (fun _ _ _ h1 hx h=>h.extS hx (hnr.ext h1)) (fun σ wx hE _ s=>R.runs_rAt s.1 (hNR.extS hE ai hnr) fun v h=>⟨Ext.refl _,h⟩) (dbn (R.OneR w11.heap.size (zk (L.getD i [])).1) rfl (fun _ _ _ h1 hx h=>h.extSS hx hltS (hnr.ext h1)) (fun σ wx hE _ s=>R.runs_one s.1 hE.size) (dbn (fun v w'=>R.AccP w11.heap.size w' v (A++[(zk (L.getD i [])).1])) rfl (fun _ _ _ h1 hx h=>h.fresh hx (hnr.ext h1) hltS) (fun σ wx hE _ s=>R.runs_appE_grow s.1 (M.extS hE hnr hneq) aa s.2.1 oM hE.size) (bv (fun hE s=>zr (eX s.1)) (dbn (fun v w'=>R.AccP w11.heap.size w' v (A++[(zk (L.getD i [])).1])) rfl (fun _ _ _ h1 hx h=>h.fresh hx (hnr.ext h1) hltS) (fun σ wx hE _ s=>zr ⟨Ext.refl _,s.1⟩) (zAJ (hK _ fun wq hS hP => ?_)))))))))))
     rintro _ rfl aq ar au av _ rfl _ rfl aw ax ay az aO aP _ rfl v5 N5;refine zY ?_;obtain ⟨G,-⟩:=hP;replace E0:=E0.updSS hS (all1 aj);have G:=G.acc aj (show (A++[(zk (L.getD i [])).1]).length<=ac by rw [dN];exact Z);have H:=N5.sz I;refine zN (zK (K5 [0,4,5,6] ?_));refine rI (K8 rfl (ag (rl (zL ?_))));exact ⟨rfl,i+1,⟨_,_,kw,oM,E0,by rw [zDy C,D];exact G,by rw [zDy C,D];exact H⟩,oM⟩
   . have I:=E0.size;have hAl:A.length<=4095:=by rw [<- D,zJo];omega
     obtain ⟨aN,V⟩:=am.blk;have z:=noW1 V dE;have hnr:=R.noR1 V dE;have hltS:∀ b∈[N],b<w11.heap.size:=all1 V.lt;have hn2:bc2 ∉ [N]:=nin1 (eH (hnq2 N qc rfl));have ai:Y ∉ [N]:=nin1 (eH (hnq3 N qc rfl));have hnea:∀ b k,Value.slice aW A.length ac = .slice (some ⟨b,0,none⟩) A.length k->b ∉ [N]:=fun b k e=>nin1 (J.neT V dE b k e)
     refine zAy false [⟨7,N,fun w=>R.AccB N qc w A,fun w=>R.AccB N qc w (A++[(zk (L.getD i [])).1])⟩] [[8],[14],[1],[5,1],[10],[18],[1],[5,1],[9],[3]] mixed kR sM (all1 (R.accStOkS am hnr)) fun K hK=>bM aL (bn z (fun hE s=>zW s.1 (F.extS hE hn2 z) fun _=>eX) (dbn (OneR w11.heap.size (zk (L.getD i [])).1) rfl (fun _ _ _ h1 hx h=>h.extSS hx hltS (z.ext h1)) (fun σ wx hE _ s=>runs_one s.1 hE.size) (dbn (fun v w'=>AccP w11.heap.size w' v (A++[(zk (L.getD i [])).1])) rfl (fun _ _ _ h1 hx h=>h.fresh hx (z.ext h1) hltS) (fun σ wx hE _ s=>runs_appE_grow s.1 (J.extS hE z hnea) Z s.2.1 oM hE.size) (bM aL (dbn (fun v w'=>R.IsR w' v (zk (L.getD i [])).1) rfl (fun _ _ _ h1 hx h=>h.extS hx (hnr.ext h1)) (fun σ wx hE _ s=>R.runs_rAt s.1 (hNR.extS hE ai hnr) fun v h=>⟨Ext.refl _,h⟩) (dbn (R.OneR w11.heap.size (zk (L.getD i [])).1) rfl (fun _ _ _ h1 hx h=>h.extSS hx hltS (hnr.ext h1)) (fun σ wx hE _ s=>R.runs_one s.1 hE.size) (des _ (fun v _=>v = .slice (some ⟨N,0,none⟩) (A++[(zk (L.getD i [])).1]).length qc) rfl (fun _ _ _ _ _ h=>h) (fun σ wx hE hpre s=>R.runs_appE_in s.1 aa hpre s.2.1) (dbn (fun v w'=>AccP w11.heap.size w' v (A++[(zk (L.getD i [])).1])) rfl (fun _ _ _ h1 hx h=>h.fresh hx (z.ext h1) hltS) (fun σ wx hE _ s=>zr ⟨Ext.refl _,s.1⟩) (bv (fun hE s=>zr (eX s.1)) (zAJ (hK _ fun wq hS hP => ?_)))))))))))
     rintro _ rfl aq ar au av aQ aR _ rfl aw ax ay az _ rfl v4 N4 _ rfl;refine zY ?_;obtain ⟨H,-⟩:=hP;replace E0:=E0.updSS hS (all1 al);have G:=N4.szle I;have H:=H.acc al (show (A++[(zk (L.getD i [])).1]).length<=qc by rw [dN];exact aa);refine zN (zK (K5 [0,4,5,6] ?_));refine rI (K8 rfl (ag (rl (zL ?_))));exact ⟨rfl,i+1,⟨_,_,kw,oM,E0,by rw [zDy C,D];exact G,by rw [zDy C,D];exact H⟩,oM⟩
   . have I:=E0.size;have hAl:A.length<=4095:=by rw [<- D,zJo];omega
     refine zAe [[8],[14],[1],[5,1],[10],[18],[1],[5,1],[9],[3]] mixed kR fun K hK=>dM aL (dc (fun hE s=>zW s.1 (F.ext hE) fun _=>eX) (dC (OneR w11.heap.size (zk (L.getD i [])).1) (fun hE s=>runs_one s.1 hE.size) (dC (fun v w'=>AccP w.heap.size w' v (A++[(zk (L.getD i [])).1])) (fun hE s=>runs_appE_grow s.1 (J.ext hE) Z s.2.1 oM (E0.trans hE).size) (dM aL (dc (fun hE s=>R.runs_rAt s.1 (hNR.ext hE) fun _=>eX) (dC (R.OneR w11.heap.size (zk (L.getD i [])).1) (fun hE s=>R.runs_one s.1 hE.size) (dC (fun v w'=>R.AccP w.heap.size w' v (A++[(zk (L.getD i [])).1])) (fun hE s=>R.runs_appE_grow s.1 (M.ext hE) aa s.2.1 oM (E0.trans hE).size) (dC (fun v w'=>AccP w.heap.size w' v (A++[(zk (L.getD i [])).1])) (fun hE s=>zr (eX s.1)) (dC (fun v w'=>R.AccP w.heap.size w' v (A++[(zk (L.getD i [])).1])) (fun hE s=>zr (eX s.1)) (zAJ (hK _ fun wq hE => ?_)))))))))));rintro _ rfl aq ar au av aQ aR _ rfl aw ax ay az aO aP v4 N4 v5 N5;refine zY ?_;replace E0:=E0.trans hE;refine zN (zK (K5 [0,4,5,6] ?_));have G:=N4;have H:=N5;refine rI (K8 rfl (ag (rl (zL ?_))));exact ⟨rfl,i+1,⟨_,_,kw,oM,E0,by rw [zDy C,D];exact G,by rw [zDy C,D];exact H⟩,oM⟩
 . have bc:=f_lt hc;obtain rfl:i=L.length:=by omega
   rw [ej] at J M;refine zT (zt (zf (zI (zK (rJ (mv (ag (ag (rM 77 ?_)))))))));exact zE (zM ⟨rfl,_,zv rfl rfl rfl,E0,_,_,rfl,J,M⟩)
variable {cu n:Nat} {pu:Option Addr} {α:Type}
def IsVV (w:World) (v:Value) (e:List (List (List UInt8))):Prop:=∃ p cap,v = .slice p e.length cap/\e.length<=cap/\∀ i,i<e.length->∃ (a:Addr) (pu:Option Addr) (cu:Nat),p=some a/\a.block<w.heap.size/\w.cell? (a.add i)=some (.slice pu (e.getD i []).length cu)/\IsVs w (.slice pu (e.getD i []).length cu) (e.getD i [])
theorem IsVV.one {M:List (List UInt8)} (e:Blk w b T [.slice pu n cu]) (s:n=M.length) (h:IsVs w (.slice pu M.length cu) M):IsVV w (.slice (some ⟨b,0,none⟩) 1 1) [M]:=by
 subst s;refine ⟨_,1,rfl,cX _,fun i z => ?_⟩;have:i=0:=by simpa using z
 subst this;exact ⟨⟨b,0,none⟩,pu,cu,rfl,e.lt,by rw [zAm,e.cell];rfl,h⟩
theorem zPX {l:List α} {p:α->Bool} {d:α} (e:i<l.length) (h:p (l.getD i d)=true):l.any p=true:=by
 rw [ig];exact ⟨l[i],fD e,by simpa [cC,cY e] using h⟩
theorem zQT {l:List α} {p:α->Bool} {d:α} (h:∀ i,i<l.length->p (l.getD i d)=false):l.any p=false:=by
 rw [List.any_eq_false];intro x s;obtain ⟨i,e,rfl⟩:=List.getElem_of_mem s;have:=h i e;simp [cC,cY e] at this;simp [this]
theorem zRx {l:List α} {p:α->Bool} {d:α} (h:∀ i,i<l.length->p (l.getD i d)=true):l.all p=true:=by
 rw [eZ];intro x s;obtain ⟨i,e,rfl⟩:=List.getElem_of_mem s;simpa [cC,cY e] using h i e
theorem zHm {l:List α} {p:α->Bool} {d:α} (e:i<l.length) (h:p (l.getD i d)=false):l.all p=false:=by
 rw [List.all_eq_false];exact ⟨l[i],fD e,by simpa [cC,cY e] using h⟩
def grM (M:List (List UInt8)):Bool:=decide (60<M.length) || M.any fun t=>decide (60<t.length)
def shM (M:List (List UInt8)):Bool := !(decide (24<M.length)&&decide (M.length<42)) && !grM M&&M.all fun t=>decide (t.length<=40)
theorem zCW:zBH prog 123 22 1:=pU
theorem zNg:prog.underlying 123=some (.slice 22):=kR
theorem zEF:Plain prog 22:=pU
theorem info22':(prog.info? 22).map (fun i=>(i.zero,i.size))=some (some (.slice none 0 0),1):=kR
theorem zQK {s:List (List (List UInt8))} (hv:IsVV w v s) (ao:s.length<1000000000):Ret prog 74 #[v] w (fun r _=>r = .bool (s.any grM)):=by
 obtain ⟨pl,cl,rfl,ap,Z⟩:=hv;refine J0 35 func74 rfl (rj (ag (rM 1 ?_)));refine zA (rj (ag (rM 9 ?_)));refine zF (zX (X:=Nat) (fun i ρ w'=>Keep ρ [(0,.slice pl s.length cl),(3,.int .i64 (i:Nat))]/\i<=s.length/\(∀ j,j<i->grM (s.getD j [])=false)/\Ext w w') (fun i=>s.length-i) 0 ⟨(kp rfl),di _,fun j C=>absurd C (gF _),E0⟩ ?_);rintro i ρ1 w1 ⟨Y,aq,N,E0⟩;refine wpe_k _ Y ?_;refine zA (rJ (mv (K1 (zG zCW rfl (K8 rfl (rM 265 ?_))))));refine K0 rfl ?_ ?_<;>intro hc
 . have e:i<s.length:=t_lt hc;obtain ⟨a5,pu,cu,H,I,F,D⟩:=Z i e;replace D:=D.ext E0;generalize J:s.getD i []=M at F D;refine sk (zA (zF (zA (rJ (mv (K1 (zAQ zCW H rfl rfl e (K1 (zBF zEF rfl (zCC E0 I F) (K1 (zG zDo rfl (K8 rfl (rM 65545 ?_)))))))))))));refine K0 rfl ?_ ?_<;>intro hc
   . have G:60<M.length:=by have:=dh hc;omega
     refine rj (ag (rM 13 ?_));refine zE (zU (zd (zU (zAP (zd (zU (zM ?_)))))));exact ⟨rfl,_,zZ rfl rfl,E0,cW Value.bool (zPX (p:=grM) (d:=[]) e (by rw [J];unfold grM;rw [cZ G];rfl)).symm⟩
   . have G:M.length<=60:=by have:=de hc;omega
     refine sk (rj (ag (rM 25 ?_)));refine zF ?_;have ar:=D;refine zX (X:=Nat) (fun k ρ w'=>Keep ρ [(0,.slice pl s.length cl),(3,.int .i64 (i:Nat)),(4,.int .i64 (k:Nat))]/\k<=M.length/\(∀ j,j<k->(M.getD j []).length<=60)/\Ext w w'/\IsVs w' (.slice pu M.length cu) M) (fun k=>M.length-k) 0 ⟨(kp rfl),di _,fun j C=>absurd C (gF _),E0,D⟩ ?_;rintro k ρ1 w2 ⟨Y,au,U,E0,D⟩;refine wpe_k _ Y ?_;refine zA (rJ (mv (mv (K1 (zAQ zCW H rfl rfl e (K1 (zBF zEF rfl (zCC E0 I F) (K1 (zG zDo rfl (K8 rfl (rM 8388633 ?_)))))))))));refine K0 rfl ?_ ?_<;>intro hc
     . have z:k<M.length:=t_lt hc;obtain ⟨pm,cm,aa,ad,V⟩:=D;cases aa;obtain ⟨a6,ae,av,ah⟩:=V k z;refine sk (zA (zF (rJ (mv (K1 (zAQ zCW H rfl rfl e (K1 (zBF zEF rfl (zCC E0 I F) (mv (K1 (zAQ zDo ae rfl rfl z (K1 (zBF zCz rfl ah (K1 (zAD zTV rfl (K8 rfl (rm [0,3,4,34] ?_)))))))))))))))));refine K0 rfl ?_ ?_<;>intro hc
       . have ai:60<(M.getD k []).length:=Int.ofNat_lt.1 (dh hc);refine rj (ag (rM 29 ?_));refine zE (zd (zU (zAP (zd (zd (zU (zAP (zd (zU (zM ?_))))))))));exact ⟨rfl,_,zZ rfl rfl,E0,cW Value.bool (zPX (p:=grM) (d:=[]) e (by rw [J];unfold grM;rw [zPX (d:=[]) z (cZ ai),Bool.or_true])).symm⟩
       . have aj:(M.getD k []).length<=60:=ft fun h=>de hc (Int.ofNat_lt.2 h);have D:IsVs _ (.slice pu M.length cu) M:=⟨pu,cu,rfl,ad,V⟩;refine zw (zN (zK (rI (K8 rfl (ag (rl (zL (⟨rfl,k+1,⟨kw,oM,fun j C => ?_,E0,D⟩,oM⟩))))))));rcases gJ.1 C with h | rfl
         . exact U j h
         . exact aj
     . have am:=f_lt hc;obtain rfl:k=M.length:=by omega
       have L:grM M=false:=by
        unfold grM;rw [cU oM,Bool.false_or];exact zQT (d:=[]) fun j C=>cU (by have:=U j C;omega)
       refine zT (zt (zf (zI (zN (zK (rI (K8 rfl (ag (rl (zL (⟨rfl,i+1,⟨kw,oM,fun j C => ?_,E0⟩,oM⟩)))))))))));rcases gJ.1 C with h | rfl
       . exact N j h
       . exact by rw [J];exact L
 . have aw:=f_lt hc;obtain rfl:i=s.length:=by omega
   refine zT (zt (zf (zI (zK (rj (ag (rM 13 ?_)))))));exact zE (en rfl E0 (cW Value.bool (zQT (d:=[]) N).symm))
theorem shortL_ok {H:List (List (List UInt8))} (hv:IsVV w v H) (aA:H.length<1000000000):Ret prog 22 #[v] w (fun r _=>r = .bool (H.all shM)):=by
 obtain ⟨pl,cl,rfl,aB,am⟩:=hv;refine J0 51 func22 rfl (rj (ag (rM 1 ?_)));refine zA (rj (ag (rM 9 ?_)));refine zF (zX (X:=Nat) (fun i ρ w'=>Keep ρ [(0,.slice pl H.length cl),(3,.int .i64 (i:Nat))]/\i<=H.length/\(∀ j,j<i->shM (H.getD j [])=true)/\Ext w w') (fun i=>H.length-i) 0 ⟨(kp rfl),di _,fun j L=>absurd L (gF _),E0⟩ ?_);rintro i ad w1 ⟨hk,aC,ae,E0⟩;refine wpe_k _ hk ?_;refine zA (rJ (mv (K1 (zG zCW rfl (K8 rfl (rM 265 ?_))))));refine K0 rfl ?_ ?_<;>intro hc
 . have s:i<H.length:=t_lt hc;obtain ⟨a5,pu,cu,D,F,C,z⟩:=am i s;replace z:=z.ext E0;generalize I:H.getD i []=M at C z;refine sk (zA (zF (zBZ (fun ρ w'=>Keep ρ [(0,.slice pl H.length cl),(3,.int .i64 (i:Nat))]/\Ext w w'/\IsVs w' (.slice pu M.length cu) M/\M.length<=60/\grM M=false/\(decide (24<M.length)&&decide (M.length<42))=false) ?_ ?_)))
   . refine zA ?_;rcases (oM:(24<M.length/\M.length<42)\/(24<M.length/\¬ M.length<42)\/¬ 24<M.length) with ⟨N,V⟩ | ⟨N,V⟩ | N
     . have U:(decide (24<M.length)&&decide (M.length<42))=true:=by rw [cZ N,cZ V];rfl
       refine rI (mv (K1 (zAQ zCW D rfl rfl s (K1 (zBF zEF rfl (zCC E0 F C) (K1 (zG zDo rfl (K1 (zC (v := .bool true) rfl rfl (sB (cZ oM)) (mv (K7 (K7 (K2 (zAQ zCW D rfl rfl s (K2 (zBF zEF rfl (zCC E0 F C) (K2 (zG zDo rfl (K2 (zC (v := .bool true) rfl rfl (sB (cZ oM)) (pc0 rfl ?_)))))))))))))))))))));refine mv (K3 (K3 (K3 (K3 (K3 (K3 (pc0 rfl (rS 8539340809 ?_))))))));refine wct rfl (rj (ag (rM 13 ?_)));refine zE (zAP (zd (zU (zAP (zd (zU (zM ?_)))))));exact ⟨rfl,_,zZ rfl rfl,E0,cW Value.bool (zHm (p:=shM) (d:=[]) s (by rw [I];unfold shM;rw [U];rfl)).symm⟩
     . have U:(decide (24<M.length)&&decide (M.length<42))=false:=by rw [cU V,Bool.and_false]
       refine rI (mv (K1 (zAQ zCW D rfl rfl s (K1 (zBF zEF rfl (zCC E0 F C) (K1 (zG zDo rfl (K1 (zC (v := .bool true) rfl rfl (sB (cZ oM)) (mv (K7 (K7 (K2 (zAQ zCW D rfl rfl s (K2 (zBF zEF rfl (zCC E0 F C) (K2 (zG zDo rfl (K2 (zC (v := .bool false) rfl rfl (sB (cU oM)) (pc0 rfl ?_)))))))))))))))))))));refine mv (K7 (K7 (K2 (zAQ zCW D rfl rfl s (K2 (zBF zEF rfl (zCC E0 F C) ?_))))));refine K2 (zi (cs:=[.slice pu M.length cu]) zNg info22' dE dE kR fun b7 w7 an hE Y hs => ?_);obtain ⟨E0,z⟩:=V1 hE E0 z.ext;refine K2 (j1 E0 z.ext yB (zQK (IsVV.one Y rfl z) sM) fun vg w1 E0 z hr => ?_);obtain rfl:=hr.trans (cW Value.bool (Bool.or_false _));refine pc0 rfl (rS 8539340809 ?_);refine K0 rfl ?_ ?_<;>intro hc
       . have e:grM M=true:=hc;refine rj (ag (rM 13 ?_));refine zE (zAP (zd (zU (zAP (zd (zU (zM ?_)))))));exact ⟨rfl,_,zZ rfl rfl,E0,cW Value.bool (zHm (p:=shM) (d:=[]) s (by rw [I];unfold shM;rw [e];simp)).symm⟩
       . have e:grM M=false:=hc;have G:M.length<=60:=by
          rcases dR 60 M.length with h | h
          . unfold grM at e;rw [cZ h] at e;cases e
          . exact h
         exact zw (zL ⟨rfl,(kp rfl),E0,z,G,e,U⟩)
     . have U:(decide (24<M.length)&&decide (M.length<42))=false:=by rw [cU N];rfl
       refine rI (mv (K1 (zAQ zCW D rfl rfl s (K1 (zBF zEF rfl (zCC E0 F C) (K1 (zG zDo rfl (K1 (zC (v := .bool false) rfl rfl (sB (cU oM)) (mv (K3 (K3 (K3 (K3 (K3 (K3 (pc0 rfl ?_)))))))))))))))));refine mv (K7 (K7 (K2 (zAQ zCW D rfl rfl s (K2 (zBF zEF rfl (zCC E0 F C) ?_))))));refine K2 (zi (cs:=[.slice pu M.length cu]) zNg info22' dE dE kR fun b7 w7 an hE Y hs => ?_);obtain ⟨E0,z⟩:=V1 hE E0 z.ext;refine K2 (j1 E0 z.ext yB (zQK (IsVV.one Y rfl z) sM) fun vg w1 E0 z hr => ?_);obtain rfl:=hr.trans (cW Value.bool (Bool.or_false _));refine pc0 rfl (rS 8539340809 ?_);refine K0 rfl ?_ ?_<;>intro hc
       . have e:grM M=true:=hc;refine rj (ag (rM 13 ?_));refine zE (zAP (zd (zU (zAP (zd (zU (zM ?_)))))));exact ⟨rfl,_,zZ rfl rfl,E0,cW Value.bool (zHm (p:=shM) (d:=[]) s (by rw [I];unfold shM;rw [e];simp)).symm⟩
       . have e:grM M=false:=hc;have G:M.length<=60:=by
          rcases dR 60 M.length with h | h
          . unfold grM at e;rw [cZ h] at e;cases e
          . exact h
         exact zw (zL ⟨rfl,(kp rfl),E0,z,G,e,U⟩)
   . skip
     rintro ad w3 ⟨hk,E0,z,G,e,U⟩;refine wpe_k _ hk ?_;refine rj (ag (rM 25 ?_));refine zF ?_;have hM0:=z;refine zX (X:=Nat) (fun k ρ w'=>Keep ρ [(0,.slice pl H.length cl),(3,.int .i64 (i:Nat)),(4,.int .i64 (k:Nat))]/\k<=M.length/\(∀ j,j<k->(M.getD j []).length<=40)/\Ext w w'/\IsVs w' (.slice pu M.length cu) M) (fun k=>M.length-k) 0 ⟨(kp rfl),di _,fun j L=>absurd L (gF _),E0,z⟩ ?_;rintro k ad w2 ⟨hk,aD,ah,E0,z⟩;refine wpe_k _ hk ?_;refine zA (rJ (mv (mv (K1 (zAQ zCW D rfl rfl s (K1 (zBF zEF rfl (zCC E0 F C) (K1 (zG zDo rfl (K8 rfl (rm [0,3,4,39] ?_)))))))))));refine K0 rfl ?_ ?_<;>intro hc
     . have J:k<M.length:=t_lt hc;obtain ⟨pm,cm,ao,ap,ai⟩:=z;cases ao;obtain ⟨a6,aq,aE,ar⟩:=ai k J;refine sk (zA (zF (rJ (mv (K1 (zAQ zCW D rfl rfl s (K1 (zBF zEF rfl (zCC E0 F C) (mv (K1 (zAQ zDo aq rfl rfl J (K1 (zBF zCz rfl ar (K1 (zAD zTV rfl (K8 rfl (rm [0,3,4,50] ?_)))))))))))))))));refine K0 rfl ?_ ?_<;>intro hc
       . have aF:40<(M.getD k []).length:=Int.ofNat_lt.1 (dh hc);refine rj (ag (rM 29 ?_));refine zE (zd (zU (zAP (zd (zd (zU (zAP (zd (zU (zM ?_))))))))));exact ⟨rfl,_,zZ rfl rfl,E0,cW Value.bool (zHm (p:=shM) (d:=[]) s (by rw [I];unfold shM;rw [zHm (d:=[]) J (cU oM),Bool.and_false])).symm⟩
       . have au:(M.getD k []).length<=40:=ft fun h=>de hc (Int.ofNat_lt.2 h);have z:IsVs _ (.slice pu M.length cu) M:=⟨pu,cu,rfl,ap,ai⟩;refine zw (zN (zK (rI (K8 rfl (ag (rl (zL (⟨rfl,k+1,⟨kw,oM,fun j L => ?_,E0,z⟩,oM⟩))))))));rcases gJ.1 L with h | rfl
         . exact ah j h
         . exact au
     . have av:=f_lt hc;obtain rfl:k=M.length:=by omega
       have Z:shM M=true:=by
        unfold shM;rw [U,e,Bool.not_false,Bool.and_self,iK];exact zRx (d:=[]) fun j L=>cZ (ah j L)
       refine zT (zt (zf (zI (zN (zK (rI (K8 rfl (ag (rl (zL (⟨rfl,i+1,⟨kw,oM,fun j L => ?_,E0⟩,oM⟩)))))))))));rcases gJ.1 L with h | rfl
       . exact ae j h
       . exact by rw [I];exact Z
 . have aG:=f_lt hc;obtain rfl:i=H.length:=by omega
   refine zT (zt (zf (zI (zK (rj (ag (rM 13 ?_)))))));exact zE (en rfl E0 (cW Value.bool (zRx (d:=[]) ae).symm))
end Go.Proofs.YtjiendlfobjanaaGreatDoor
namespace Go.Proofs.YtjiendlfobjanaaGreatDoor.R
open Go Go.RowKit Go.Proofs Tryz
set_option maxRecDepth 10000
set_option maxHeartbeats 2000000
attribute [local irreducible] Runs WPE CallK Ret
variable {O xs:List Nat} {k m n rest:Nat} {v:Value} {w:World}
theorem dec_down (e:k<xs.length) (z:O.length=xs.length) (C:xs.getD k 0<1073741824) (D:rest<1000000000) (h:nat30 (xs.drop (k+1))=nat30 (O.drop (k+1))*1000000000+rest) :
 (rest*1073741824+xs.getD k 0)/1000000000<1073741824/\nat30 (xs.drop k)=nat30 ((O.set k ((rest*1073741824+xs.getD k 0)/1000000000)).drop k)*1000000000+(rest*1073741824+xs.getD k 0)%1000000000:=by
 have s:=zBg e;have h2:=zBg (ds:=O.set k ((rest*1073741824+xs.getD k 0)/1000000000)) (k:=k) (by rw [ff];omega);rw [zBo oM,show (O.set k ((rest*1073741824+xs.getD k 0)/1000000000)).drop (k+1)=O.drop (k+1) from List.drop_set_of_lt oM] at h2;refine ⟨oM,?_⟩;rw [s,h2,h];have:=fZ (rest*1073741824+xs.getD k 0) 1000000000;omega
theorem dec_down_end (e:nat30 xs=m) (s:rest<1000000000) (h:nat30 (xs.drop 0)=nat30 (O.drop 0)*1000000000+rest):nat30 O=m/10^9/\rest=m%10^9:=by
 simp only [eT] at h;have:(10:Nat)^9=1000000000:=rfl;rw [this];omega
theorem zQf (d:Nat):IntKind.u8.wrap (IntKind.i64.wrap (48+((d%10:Nat):Int)))=(((UInt8.ofNat (48+d%10)).toNat:Nat):Int):=by
 have h:d%10<10:=eE _ dE;rw [zm oM oM];have e:(UInt8.ofNat (48+d%10)).toNat=48+d%10:=by simp;omega
 rw [e];generalize d%10=x at *;have:x=0\/x=1\/x=2\/x=3\/x=4\/x=5\/x=6\/x=7\/x=8\/x=9:=oM
 rcases this with rfl | rfl | rfl | rfl | rfl | rfl | rfl | rfl | rfl | rfl<;>rfl
theorem zAi:Plain prog 48:=pU
theorem info5:(prog.info? 5).map (fun i=>(i.zero,i.size))=some (some (.int .u8 0),1):=kR
theorem IsN.form (h:IsN w v n):∃ p l c,v = .slice p l c/\(l=0↔n=0):=by
 obtain ⟨p,ds,c,e,C,D,s,z⟩:=h;refine ⟨p,ds.length,c,e,?_⟩;rw [fe,<- z];exact s.zero.symm
theorem zLe (hx:IsN w v n) (hn:Fine n):Ret prog 188 #[v] w (fun r _=>r=S (Lib.decDigits n)):=by
 obtain ⟨p0,l0,c0,rfl,aj⟩:=hx.form;refine J0 68 func188 rfl (rj (ag (rM 1 ?_)));refine zA (rJ (K1 (zG zu rfl (K8 rfl (rM 2049 ?_)))));refine K0 rfl ?_ ?_<;>intro F
 . have I:n=0:=aj.1 (by have:=gC F;omega);refine rj (ag (rM 5 ?_));refine zE (zU (zM ?_));exact ⟨rfl,_,zZ rfl rfl,E0,by rw [I,zHT];rfl⟩
 . have I:n≠0:=fun e=>by rw [aj.2 e] at F;cases F
   refine sk (rj (ag (rM 9 ?_)));refine zA (zF (zX (X:=Nat×List UInt8) (fun (x:Nat×List UInt8) ρ w'=>∃ va,Keep ρ [(0,va),(3,S x.2)]/\Ext w w'/\IsN w' va x.1/\dec0 x.1++x.2=dec0 n/\x.1<=n) (fun x=>x.1) (n,[]) ⟨_,(kp rfl),E0,hx.ext E0,sM,cX _⟩ ?_));rintro ⟨m,s⟩ ρ1 w1 ⟨va,M,E0,hA,hd,J⟩;dsimp only at hA hd J;obtain ⟨pa,xs,ca,rfl,aU,G,U,L⟩:=hA;refine wpe_k _ M ?_;have hz:=U.zero;have hlx:=U.fit (by rw [L];exact (hn.le J).fit);have hsl:s.length<=1000000000:=by
    have h1:=cW List.length hd;rw [dN,zJf I] at h1;have:=hn.len;omega
   refine zA (rJ (K1 (zG zu rfl (K8 rfl (rM 16393 ?_)))));refine K0 rfl ?_ ?_<;>intro F
   . have hm:m≠0:=fun e=>by have h1:=hz.1 (L.trans e);rw [h1] at F;cases F
     refine sk (zF (rJ (K1 (zG zu rfl ?_))));refine K1 (zAK zBV info2 rfl rfl rfl oM oM oM fun ob w1 ak N H hs => ?_);have hgb:w.heap.size<=ob:=by rw [ak];exact E0.size
     have ay:=G.ne (dS ak.symm);obtain ⟨E0,G⟩:=V1 N E0 G.ext;rw [show ((xs.length:Nat):Int).toNat=xs.length from by omega,show (Value.int IntKind.i64 0).cells.toList=[Value.int IntKind.i64 0] from rfl,zAp] at H;refine ag (rM 25 ?_);refine rj (ag (rM 57 ?_));refine zA (rJ (K1 (zG zu rfl (K8 rfl (ag (rM 121 ?_))))));refine zF ?_;refine zX (X:=Nat×Nat×List Nat) (fun x ρ w'=>Keep ρ [(0,.slice pa xs.length ca),(3,S s),(4,.slice (some ⟨ob,0,none⟩) xs.length xs.length),(5,.int .i64 ((x.2.1:Nat):Int)),(6,.int .i64 (((x.1:Nat):Int)-1))]/\Ext w w'/\Rd w' pa xs/\x.1<=xs.length/\x.2.1<1000000000/\x.2.2.length=xs.length/\Dig x.2.2/\nat30 (xs.drop x.1)=nat30 (x.2.2.drop x.1)*1000000000+x.2.1/\Blk w' ob 2 (dv x.2.2)) (fun x=>x.1) (xs.length,0,List.replicate xs.length 0) ⟨⟨rfl,rfl,rfl,rfl,rfl,rfl,rfl,rfl,rfl,cW (Value.int .i64) (zm oM oM),trivial⟩,E0,G,cX _,by show (0:Nat)<1000000000;decide,sM,zCK _,by simp [nat30],H⟩ ?_;rintro ⟨k,rest,O⟩ ρ1 w1 ⟨M,E0,G,az,V,hO,Y,Z,H⟩;dsimp only at M az V hO Y Z H;refine wpe_k _ M ?_;refine zA (zA ?_);rcases k with _ | k
     . obtain ⟨aA,aB⟩:=dec_down_end L V Z;subst aB;refine rI (K8 rfl (rS 4194425 ?_));refine wcf rfl (zT (zt (zf (zI (zK (rJ (K1 (zJ yB (CallK.of_ret (zGK hO (cX _) (Rd.of_blk H) Y oM) fun vq w2 N z => ?_) rfl))))))));replace E0:=E0.trans N;rw [aA] at z;obtain ⟨qp,ql,qc,rfl,al⟩:=z.form;refine ag (rM 121 ?_);refine rj (ag (rM 249 ?_));refine zA (rj (ag (rM 505 ?_)));refine zF ?_;refine zX (X:=Nat×List UInt8) (fun x ρ w'=>Keep ρ [(0,.slice qp ql qc),(3,S s),(5,.int .i64 ((m%10^9/10^x.1:Nat):Int)),(7,S x.2),(8,.int .i64 ((x.1:Nat):Int))]/\Ext w w'/\IsN w' (.slice qp ql qc) (m/10^9)/\x.1<=9/\x.2.length=x.1/\zJM (decide (m/10^9≠0)) (m%10^9) x.1 x.2) (fun x=>9-x.1) (0,[]) ⟨⟨rfl,rfl,rfl,rfl,rfl,by rw [Nat.pow_zero,fI];rfl,rfl,rfl,rfl,rfl,trivial⟩,E0,z,dE,rfl,frontD_0 _ _⟩ ?_;rintro ⟨j,p⟩ ρ1 w1 ⟨M,E0,z,aC,aa,C⟩;dsimp only at M aC aa C;refine wpe_k _ M ?_;have hr9:m%10^9/10^j<1000000000:=eN (fg _ _) (eE m dE);refine zA (zA ?_);rcases (oM:(j<9/\m/10^9≠0)\/(j<9/\m/10^9=0)\/j=9) with ⟨hj,h0⟩ | ⟨hj,h0⟩ | hj
       . have am:ql≠0:=fun e=>h0 (al.1 e);refine rI (K1 (zC (v := .bool true) rfl rfl (sB (cZ oM)) (mv (K7 (K2 (zG zu rfl (K2 (zC (v := .bool true) rfl rfl (sB (cZ oM)) (K7 (K3 (K3 (K2 (zAB rfl (pc0 rfl (rS 4486007441326505 ?_)))))))))))))));refine wct rfl (sk (zA (zF (zA ?_))));have ad:decide (m/10^9≠0)=true\/0<m%10^9/10^j := .inl (cZ h0);refine rI (K1 (zAE (b:=10) (m%10^9/10^j%10) rfl rfl dE rfl (K8 rfl (K1 (zBz zMT zPR rfl ?_)))));rw [zQf];refine K1 (zi (cs:=[.int .u8 (((UInt8.ofNat (48+m%10^9/10^j%10)).toNat:Nat):Int)]) zGZ info5 dE dE kR fun sb w10 hb N hBb hs => ?_);obtain ⟨E0,z⟩:=V1 N E0 z.ext;refine K1 (zIw (l:=[UInt8.ofNat (48+m%10^9/10^j%10)]) zGZ zPR zAM rfl rfl hBb (fun i hi=>by
          obtain rfl:i=0:=by simpa using hi
          rfl) ?_)
         refine mv ?_;refine K1 (zBm rfl rfl (by simp;omega) ?_);refine ag (rS 2234207627641257 ?_);refine rI (K1 (zAn (b:=10) (m%10^9/10^j/10) rfl rfl dE rfl oM ?_));rw [fX,<- dB];refine ag (rl (zN (zK (K5 [0,3,5,7,8,44,45,46,47,48,49,50] ?_))));refine rI (K8 rfl (ag (rl (zL ?_))));exact ⟨rfl,(j+1,UInt8.ofNat (48+m%10^9/10^j%10) :: p),⟨kw,E0,z,oM,by simp [aa],zKY C ad⟩,by simp only;omega⟩
       . have am:ql=0:=al.2 h0;refine rI (K1 (zC (v := .bool true) rfl rfl (sB (cZ oM)) (mv (K7 (K2 (zG zu rfl (K2 (zC (v := .bool false) rfl rfl (sB (cU oM)) (K7 (K7 (K2 (zC rfl rfl rfl (K2 (zAB rfl (pc0 rfl (rS 4486007441326505 ?_))))))))))))))));refine K0 rfl ?_ ?_<;>intro F
         . have ad:decide (m/10^9≠0)=true\/0<m%10^9/10^j := .inr (by have:=dh F;omega);refine sk (zA (zF (rJ (K1 (zAE (b:=10) (m%10^9/10^j%10) rfl rfl dE rfl (K8 rfl (K1 (zBz zMT zPR rfl ?_))))))));rw [zQf];refine K1 (zi (cs:=[.int .u8 (((UInt8.ofNat (48+m%10^9/10^j%10)).toNat:Nat):Int)]) zGZ info5 dE dE kR fun sb w10 hb N hBb hs => ?_);obtain ⟨E0,z⟩:=V1 N E0 z.ext;refine K1 (zIw (l:=[UInt8.ofNat (48+m%10^9/10^j%10)]) zGZ zPR zAM rfl rfl hBb (fun i hi=>by
            obtain rfl:i=0:=by simpa using hi
            rfl) ?_)
           refine mv ?_;refine K1 (zBm rfl rfl (by simp;omega) ?_);refine ag (rM 2234207627641257 ?_);refine rI (K1 (zAn (b:=10) (m%10^9/10^j/10) rfl rfl dE rfl oM ?_));rw [fX,<- dB];refine ag (rl (zN (zK (K5 [0,3,5,7,8,44,45,46,47,48,49,50] ?_))));refine rI (K8 rfl (ag (rl (zL ?_))));exact ⟨rfl,(j+1,UInt8.ofNat (48+m%10^9/10^j%10) :: p),⟨kw,E0,z,oM,by simp [aa],zKY C ad⟩,by simp only;omega⟩
         . have D:j=9\/(m/10^9=0/\m%10^9/10^j=0) := .inr ⟨h0,Nat.le_zero.1 (ft fun h=>de F (Int.natCast_pos.2 h))⟩;refine zT (zt (zf (zI (zK (rI (mv (K1 (zBm rfl rfl oM (ag (rl (zN (zL ?_))))))))))));exact ⟨rfl,(m/10^9,p++s),⟨_,(kp rfl),E0,z,by rw [<- dU,<- zLo hm C D];exact hd,dz (fg _ _) J⟩,Nat.div_lt_self oM dE⟩
       . skip
         refine rI (K1 (zC (v := .bool false) rfl rfl (sB (cU oM)) (mv (K3 (K3 (K3 (K3 (K3 (K3 (K3 (pc0 rfl (rS 4486007441326505 ?_))))))))))));refine wcf rfl (zT (zt (zf (zI (zK ?_)))));have D:j=9\/(m/10^9=0/\m%10^9/10^j=0) := .inl hj;refine rI (mv (K1 (zBm rfl rfl oM (ag (rl (zN (zL ?_)))))));exact ⟨rfl,(m/10^9,p++s),⟨_,(kp rfl),E0,z,by rw [<- dU,<- zLo hm C D];exact hd,dz (fg _ _) J⟩,Nat.div_lt_self oM dE⟩
     . obtain ⟨b1,o1,aV,an,aD,aE⟩:=G k oM;have hk0:decide ((((k+1:Nat):Int)-1)≥0)=true:=by simp only [eA];omega
       have aF:IntKind.i64.wrap (((k+1:Nat):Int)-1-1)=((k:Nat):Int)-1:=by rw [zm oM oM];omega
       have aG:(((k+1:Nat):Int)-1).toNat=k:=oM
       have aH:=U.1.getD k;have hdn:=dec_down oM hO aH V Z;have hix:0+(((k+1:Nat):Int)-1).toNat*1=k:=oM
       refine rI (K8 rfl (rS 4194425 ?_));refine wct (cW Value.bool hk0) (sk (zA (zF (rJ (K1 (zBw (b:=1073741824) (rest*1073741824) rfl rfl rfl oM (mv (mv (K1 (zH (b:=b1) (o:=o1) zu (cW (fun p=>Value.slice p xs.length ca) an) rfl oM oM ?_))))))))));refine K1 (zD zBq rfl aD (by rw [aG];simpa using aE) ?_);refine K1 (zg (rest*1073741824+xs.getD k 0) rfl rfl rfl oM (ag (rM 121 ?_)));refine rJ (mv (mv (K1 (zAn (b:=1000000000) ((rest*1073741824+xs.getD k 0)/1000000000) rfl rfl dE rfl oM (K1 (zH (b:=ob) (o:=0) zu rfl rfl oM oM ?_))))));refine K1 (zc size2 rfl H rfl (by rw [hix,zAO];omega) dE rfl fun w4 hU hN => ?_);rw [hix] at hN;replace E0:=E0.upd hU hgb;replace G:=G.upd' hU ay;clear H;have H:=zAq hN rfl;refine rM 121 ?_;refine rI (K1 (zAE (b:=1000000000) ((rest*1073741824+xs.getD k 0)%1000000000) rfl rfl dE rfl (ag (rl (zN (zK (K5 [0,3,4,5,6] ?_)))))));refine rI (K8 rfl (ag (rl (zL ?_))));exact ⟨rfl,(k,_,_),⟨⟨rfl,rfl,rfl,rfl,rfl,rfl,rfl,rfl,rfl,cW (Value.int .i64) aF,trivial⟩,E0,G,oM,eE _ dE,by rw [ff];exact hO,Y.set _ hdn.1,hdn.2,H⟩,by simp only;omega⟩
   . have hm:m=0:=by
      rw [<- L];refine hz.2 (ef ?_);have:=de F;omega
     rw [hm,zOE,gu,zJf I] at hd;refine zT (zt (zf (zI (zK (rJ (ag (rM 5 ?_)))))));refine zE (zM ?_);exact ⟨rfl,_,zZ rfl rfl,E0,by rw [hd];rfl⟩
theorem zTO {q:Rat} (h:q≠0):(q.num.sign != 0)=true:=by
 rw [fO];exact fun e=>h (fG.1 (fU.1 e))
theorem Text_ok {q:Rat} (U:IsR w v q) (F:Fine q.num.natAbs) (J:Fine q.den):Ret prog 93 #[v] w (fun r _=>r=S (textS q)):=by
 obtain ⟨n,d,rfl,H,z⟩:=U;refine J0 28 func93 rfl (rj ?_);refine K1 (zn (Z0 E0 fun M w1 E0 hgb1 s=>ag (rM 2 ?_)));refine zA ?_;replace s:Blk _ M 50 [.int .i64 q.num.sign,n,d]:=s;replace H:=H.ext E0;replace z:=z.ext E0;refine K6 (K1 (zB zEf rfl (K1 (zD zAi rfl s rfl (K1 (j3 E0 s.ext H.ext z.ext yB (zLe H F) fun vi L E0 s H z hr => ?_))))));subst hr;refine ag (rS 10 ?_);refine zBZ (fun ρ w'=>Keep ρ [(1,.pointer (some ⟨M,0,none⟩)),(3,S ((if q<0 then [45] else [])++Lib.decDigits q.num.natAbs))]/\Ext w w'/\Blk w' M 50 [.int .i64 q.num.sign,n,d]/\IsN w' d (if q=0 then 0 else q.den)) ?_ ?_
 . refine rj (K1 (zB zBL rfl (K1 (zD zAT rfl s rfl (K8 rfl (rM 522 ?_))))));refine K0 rfl ?_ ?_<;>intro N
   . have C:q<0:=(zCE q).2 (Int.sign_neg_iff.1 (dh N));refine K6 (mv ?_);refine K1 (zBm (a:=[45]) rfl rfl (by have:=F.len;simp;omega) ?_);refine ag (rl (zL ?_));exact ⟨rfl,⟨rfl,rfl,rfl,by rw [cD C];rfl,trivial⟩,E0,s,z⟩
   . have C:¬ q<0:=fun e=>de N (Int.sign_neg_iff.2 ((zCE q).1 e));refine zw (zL ?_);exact ⟨rfl,⟨rfl,rfl,rfl,by rw [ct C];rfl,trivial⟩,E0,s,z⟩
 . skip
   rintro X L ⟨V,E0,s,z⟩;refine wpe_k _ V ?_;refine zA (zA ?_);rcases (show q=0\/(q≠0/\q.den=1)\/(q≠0/\q.den≠1) from by by_cases h:q=0<;>by_cases h':q.den=1<;>simp [h,h']) with G | ⟨G,D⟩ | ⟨G,D⟩
   . have D:q.den=1:=by rw [G];rfl
     have I:(q.num.sign != 0)=false:=by rw [G];rfl
     refine K6 (K1 (zB zBL rfl (K1 (zD zAT rfl s rfl (K1 (zC (v := .bool false) rfl rfl (sB (I)) (mv (K3 (K3 (K3 (K3 (pc0 rfl (rs [1,3,20] ?_)))))))))))));refine wcf rfl (sk (rJ (ag (rM 6 ?_))));refine zE (zM ?_)
     first
     | exact ⟨rfl,_,zZ rfl rfl,E0,by unfold textS;rw [ct D,dU];rfl⟩
     | exact ⟨rfl,_,zZ rfl rfl,E0,by unfold textS;rw [cD D,fu];rfl⟩
   . have I:(q.num.sign != 0)=true:=zTO G;rw [ct G] at z;refine K6 (K1 (zB zBL rfl (K1 (zD zAT rfl s rfl (K1 (zC (v := .bool true) rfl rfl (sB (I)) (mv (K2 (zB zCL rfl (K2 (zD zAi rfl s rfl (K2 (j2 E0 s.ext z.ext yB (zCZ z) fun vi L E0 s z hr => ?_)))))))))))));obtain rfl:=hr.trans (cW Value.bool (cZ D));refine K2 (zp rfl (pc0 rfl (rs [1,3,20] ?_)));refine wcf rfl (sk (rJ (ag (rM 6 ?_))));refine zE (zM ?_)
     first
     | exact ⟨rfl,_,zZ rfl rfl,E0,by unfold textS;rw [ct D,dU];rfl⟩
     | exact ⟨rfl,_,zZ rfl rfl,E0,by unfold textS;rw [cD D,fu];rfl⟩
   . have I:(q.num.sign != 0)=true:=zTO G;rw [ct G] at z;refine K6 (K1 (zB zBL rfl (K1 (zD zAT rfl s rfl (K1 (zC (v := .bool true) rfl rfl (sB (I)) (mv (K2 (zB zCL rfl (K2 (zD zAi rfl s rfl (K2 (j2 E0 s.ext z.ext yB (zCZ z) fun vi L E0 s z hr => ?_)))))))))))));obtain rfl:=hr.trans (cW Value.bool (cU D));refine K2 (zp rfl (pc0 rfl (rs [1,3,20] ?_)));refine wct rfl (K6 (mv ?_));refine K1 (zBm (b:=[47]) rfl rfl (by have:=F.len;simp;split<;>simp<;>omega) ?_);refine K1 (zB zCL rfl (K1 (zD zAi rfl s rfl (K1 (j0 E0 yB (zLe z J) fun vi L E0 hr => ?_)))));subst hr;refine K1 (zBm rfl rfl (by have:=F.len;have:=J.len;simp;split<;>simp<;>omega) ?_);refine ag (rS 10 ?_);refine rJ (ag (rM 6 ?_));refine zE (zM ?_)
     first
     | exact ⟨rfl,_,zZ rfl rfl,E0,by unfold textS;rw [ct D,dU];rfl⟩
     | exact ⟨rfl,_,zZ rfl rfl,E0,by unfold textS;rw [cD D,fu];rfl⟩
variable {u:Value} {x y:Rat}
def Room (x y:Rat):Prop:=sz x+sz y<900000000000
structure Roomy (x y:Rat):Prop where
 xn:Fit x.num.natAbs
 xd:Fit x.den
 yn:Fit y.num.natAbs
 yd:Fit y.den
 nn:Fits (x.num.natAbs*y.num.natAbs)
 nd:Fits (x.num.natAbs*y.den)
 nd':Fits (y.num.natAbs*x.den)
 dd:Fits (x.den*y.den)
 add:Fits (x.num.natAbs*y.den+y.num.natAbs*x.den)
theorem Room.roomy (h:Room x y):Roomy x y:=by
 unfold Room sz at h;have s:=zCD x.num.natAbs y.num.natAbs;have k2:=zCD x.num.natAbs y.den;have k4:=zCD x.den y.den;have k5:=zCD y.num.natAbs x.den;have k6:=zKh (x.num.natAbs*y.den) (y.num.natAbs*x.den);have e:∀ {n:Nat},n.log2<1000000000000->Fits n:=fun h=>h;exact ⟨zEJ oM,zEJ oM,zEJ oM,zEJ oM,e oM,e oM,e oM,e oM,e oM⟩
theorem zDn (h:x≠0):(x.num.sign=1/\decide (x<0)=false)\/(x.num.sign = -1/\decide (x<0)=true):=by
 rcases gO x.num 0 with a | a | a
 . exact .inr ⟨eu a,cZ ((zCE x).2 a)⟩
 . exact absurd (fG.1 a) h
 . exact .inl ⟨eI a,cU fun e=>by have:=(zCE x).1 e;omega⟩
theorem sign3 (x:Rat):x.num.sign=1\/x.num.sign = -1\/x.num.sign=0:=by
 by_cases h:x=0
 . exact .inr (.inr (by rw [h];rfl))
 . rcases zDn h with ⟨h,_⟩ | ⟨h,_⟩
   . exact .inl h
   . exact .inr (.inl h)
theorem zFF (h:x≠0):decide (x.num.sign<0)=decide (x<0)/\x.num.sign≠0:=by
 rcases zDn h with ⟨e,s⟩ | ⟨e,s⟩<;>rw [e,s]<;>decide
theorem zLJ (C:x≠0) (D:y≠0):(IntKind.i64.wrap (x.num.sign*y.num.sign)=1\/IntKind.i64.wrap (x.num.sign*y.num.sign) = -1)/\decide (IntKind.i64.wrap (x.num.sign*y.num.sign)<0)=(decide (x<0) != decide (y<0)):=by
 rcases zDn C with ⟨e,h⟩ | ⟨e,h⟩<;>rcases zDn D with ⟨s,z⟩ | ⟨s,z⟩<;>rw [e,h,s,z]<;>exact ⟨dK,dK⟩
theorem zMQ (h:x=0\/y=0):(IntKind.i64.wrap (x.num.sign*y.num.sign)==0)=true:=by
 rcases h with rfl | rfl
 . rw [show (0:Rat).num.sign=0 from rfl,Int.zero_mul];rfl
 . rw [show (0:Rat).num.sign=0 from rfl,Int.mul_zero];rfl
theorem mul_res (e:x≠0) (s:y≠0) (h:IsR w v (qOf (decide (IntKind.i64.wrap (x.num.sign*y.num.sign)<0)) (if IntKind.i64.wrap (x.num.sign*y.num.sign)=0 then 0 else x.num.natAbs*y.num.natAbs) (x.den*y.den))):IsR w v (x*y):=by
 obtain ⟨C,z⟩:=zLJ e s;rw [ct oM,z,<- q_mul] at h;exact h
theorem IsR.zero' (h:x=0):IsR w (.agg #[.int .i64 0,.slice none 0 0,.slice none 0 0]) x:=by rw [h];exact IsR.zero
theorem Sign_ok (e:IsR w v x):Ret prog 120 #[v] w (fun u _=>u = .int .i64 x.num.sign):=by
 obtain ⟨n,d,rfl,h,s⟩:=e;refine J0 5 func120 rfl (rj ?_);refine K1 (zn (Z0 E0 fun b1 w1 E0 hgb1 hB1=>ag (rM 2 ?_)));refine rj (K1 (zB zBL rfl (K1 (zD zAT rfl hB1 rfl (ag (rM 4 ?_))))));exact zE (en rfl E0 rfl)
theorem whole_nat (n:Nat):n%1073741824+1073741824*(n/1073741824%1073741824+1073741824*(n/1073741824/1073741824))=n:=oM
theorem zHD (z:n<9223372036854775808):Ret prog 200 #[.int .i64 (n:Int)] w (fun v w'=>IsN w' v n):=by
 refine J0 13 func200 rfl (rj (ag (rM 1 ?_)));refine rJ (K1 (zAE (b:=1073741824) (n%1073741824) rfl rfl dE rfl (mv (K1 (zAn (b:=1073741824) (n/1073741824) rfl rfl dE rfl oM (K1 (zAE (b:=1073741824) (n/1073741824%1073741824) rfl rfl dE rfl (mv (K1 (zAn (b:=1073741824) (n/1073741824) rfl rfl dE rfl oM (K1 (zAn (b:=1073741824) (n/1073741824/1073741824) rfl rfl dE rfl oM ?_))))))))))));refine K1 (zi (cs:=dv [n%1073741824,n/1073741824%1073741824,n/1073741824/1073741824]) zBV info2' dE dE kR fun b e C h s D => ?_);replace E0:=E0.trans h;refine K1 (j0 E0 yB (zGK (ds:=[n%1073741824,n/1073741824%1073741824,n/1073741824/1073741824]) rfl (cX _) (Rd.of_blk s) (by intro d hd;simp at hd;omega) dE) fun v1_9 e E0 hr => ?_);rw [show nat30 [n%1073741824,n/1073741824%1073741824,n/1073741824/1073741824]=n from whole_nat n] at hr;refine ag (rM 4 ?_);exact zE (en rfl E0 hr)
theorem int_res (h:IsR w v (qOf (decide ((1:Int)<0)) n 1)):IsR w v (n:Rat):=by
 have e:=zPt (n:Int);rw [cU oM,gW] at e;rw [show (decide ((1:Int)<0))=false from rfl,e] at h;exact h
theorem zDC (D:n<9223372036854775808):Ret prog 112 #[.int .i64 (n:Int)] w (fun u w'=>IsR w' u (n:Rat)):=by
 refine J0 28 func112 rfl (rj ?_);refine K1 (zR zero50 (Z0 E0 fun F G E0 h e=>rM 5 ?_));refine zA (rJ (K8 rfl (rM 37 ?_)));refine wcf vF (sk (rJ (K1 (j1 E0 e.ext yB (zHD D) fun v4_1 w2 E0 e N1=>K1 (j2 E0 e.ext N1.ext yB (zHG _) fun v4_2 w3 E0 e N1 N2 => ?_)))));refine K1 (j3 E0 e.ext N1.ext N2.ext yB (zGQ (.inl rfl) N1 N2 dE (eN (zEh (eU D)) dK) (by unfold Fits;decide +kernel)) fun v4_3 w4 E0 e N1 N2 N3 => ?_);rw [ct dE] at N3;refine K1 (runs_rstoreK rfl N3 (Cell3.of e rfl) fun _ w9 hU hN => ?_);replace E0:=E0.upd hU h;obtain ⟨cs,s,z,C⟩:=hN;refine rM 4 ?_;exact zE (zM ⟨rfl,_,zq rfl rfl rfl zAS s z,E0,int_res C⟩)
theorem Mul_ok (Z:IsR w u x) (hy:IsR w v y) (U:Room x y):Ret prog 121 #[u,v] w (fun r w'=>IsR w' r (x*y)):=by
 have M:=U.roomy;obtain ⟨xn,xd,rfl,H,D⟩:=Z;obtain ⟨yn,yd,rfl,I,F⟩:=hy;refine J0 28 func121 rfl (rj ?_);refine K1 (zn (Z4 E0 H.ext D.ext I.ext F.ext fun b1 w1 E0 H D I F hgb1 s => ?_));refine K1 (zn (Z5a E0 H.ext D.ext I.ext F.ext s.ext s.lt fun b2 w2 E0 H D I F s hgb2 ne_b1_b2 C => ?_));refine K1 (zR zero50 (Z6b E0 H.ext D.ext I.ext F.ext s.ext C.ext s.lt C.lt fun b3 w3 E0 H D I F s C hgb3 ne_b1_b3 ne_b2_b3 h=>rM 28 ?_));refine zA (zA ?_);rcases (show x=0\/(x≠0/\y=0)\/(x≠0/\y≠0) from by by_cases a:x=0<;>by_cases b:y=0<;>simp [a,b]) with J | ⟨J,L⟩ | ⟨J,L⟩
 . have N:=zMQ (x:=x) (y:=y) (.inl J);refine K6 (K1 (zB zBL rfl (K1 (zD zAT rfl s rfl (K1 (zB zBL rfl (K1 (zD zAT rfl C rfl (K8 rfl (K8 rfl (rS 1052 ?_)))))))))));refine wct (cW Value.bool N) (rj (K1 (zV (cs := #[.int .i64 0,.slice none 0 0,.slice none 0 0]) kR (K1 (zc zGB rfl h rfl (cw rfl) dE rfl fun w4 hU hN => ?_)))));replace E0:=E0.upd hU hgb3;replace H:=H.upd hU h dE;replace D:=D.upd hU h dE;replace I:=I.upd hU h dE;replace F:=F.upd hU h dE;replace s:=s.upd hU ne_b1_b3;replace C:=C.upd hU ne_b2_b3;clear h;have h:=hN;refine rm [4] ?_;exact zE (zU (zM ⟨rfl,_,zq rfl rfl rfl zAS h rfl,E0,IsR.zero' (by rw [J,dO])⟩))
 . have N:=zMQ (x:=x) (y:=y) (.inr L);refine K6 (K1 (zB zBL rfl (K1 (zD zAT rfl s rfl (K1 (zB zBL rfl (K1 (zD zAT rfl C rfl (K8 rfl (K8 rfl (rS 1052 ?_)))))))))));refine wct (cW Value.bool N) (rj (K1 (zV (cs := #[.int .i64 0,.slice none 0 0,.slice none 0 0]) kR (K1 (zc zGB rfl h rfl (cw rfl) dE rfl fun w4 hU hN => ?_)))));replace E0:=E0.upd hU hgb3;replace H:=H.upd hU h dE;replace D:=D.upd hU h dE;replace I:=I.upd hU h dE;replace F:=F.upd hU h dE;replace s:=s.upd hU ne_b1_b3;replace C:=C.upd hU ne_b2_b3;clear h;have h:=hN;refine rm [4] ?_;exact zE (zU (zM ⟨rfl,_,zq rfl rfl rfl zAS h rfl,E0,IsR.zero' (by rw [L,ed])⟩))
 . have N:(IntKind.i64.wrap (x.num.sign*y.num.sign)==0)=false:=dk.2 (by have:=(zLJ J L).1;omega);rw [ct J] at D;rw [ct L] at F;refine K6 (K1 (zB zBL rfl (K1 (zD zAT rfl s rfl (K1 (zB zBL rfl (K1 (zD zAT rfl C rfl (K8 rfl (K8 rfl (rS 1052 ?_)))))))))));refine wcf (cW Value.bool N) (sk (zA (zAR none 16 [[4],[1],[6],[1],[5,1],[4],[1],[6],[1],[5,1],[4],[1],[6],[1],[5,1],[21,11,1]] mixed kR fun K hK=>du (fun G z=>zB zBL z.1 eR) (du (fun G z=>zD zAT z.1 (s.ext G) rfl eR) (du (fun G z=>zB zBL z.1 eR) (du (fun G z=>zD zAT z.1 (C.ext G) rfl eR) (du (fun G z=>zC z.1 z.2.1 rfl eR) (du (fun G z=>zB zEf z.1 eR) (du (fun G z=>zD zAi z.1 (s.ext G) rfl eR) (du (fun G z=>zB zEf z.1 eR) (du (fun G z=>zD zAi z.1 (C.ext G) rfl eR) (dl (fun G z=>zCX (IsN.of_eq z.1 (H.ext G)) (IsN.of_eq z.2.1 (I.ext G)) M.xn M.yn) ?_))))))))))))
   refine du (fun G z=>zB zCL z.1 eR) (du (fun G z=>zD zAi z.1 (s.ext G) rfl eR) (du (fun G z=>zB zCL z.1 eR) (du (fun G z=>zD zAi z.1 (C.ext G) rfl eR) (dl (fun G z=>zCX (IsN.of_eq z.1 (D.ext G)) (IsN.of_eq z.2.1 (F.ext G)) M.xd M.yd) (dC (fun v w'=>IsR w' v (x*y)) (fun G z=>zJ yB (CallK.eq3 z.1 rfl rfl (CallK.of_ret (zGQ ((zLJ J L).1.elim .inl fun e => .inr (.inl e)) z.2.1 z.2.2.1 (gt x.den_nz y.den_nz) M.nn M.dd) fun v w2 hX U=>⟨hX,mul_res J L U⟩)) rfl) (zAJ (hK _ fun wq G => ?_)))))));rintro _ rfl _ rfl _ rfl _ rfl _ rfl _ rfl _ rfl _ rfl _ rfl v21 N21 _ rfl _ rfl _ rfl _ rfl v26 N26 v27 N27;refine zY ?_;obtain ⟨E0,H,D,I,F,s,C,h⟩:=V7 G E0 H.ext D.ext I.ext F.ext s.ext C.ext h.ext;refine K1 (runs_rstoreK rfl N27 (Cell3.of h rfl) fun _ w9 hU hN => ?_);replace E0:=E0.upd hU hgb3;obtain ⟨cs,V,X,Y⟩:=hN;refine zAh (zK (K5 [4] ?_));exact zE (zM ⟨rfl,_,zq rfl rfl rfl zAS V X,E0,Y⟩)
theorem IsR.inv {n d:Value} (h:y≠0) (z:IsN w n y.num.natAbs) (C:IsN w d y.den):IsR w (.agg #[.int .i64 y.num.sign,d,n]) y⁻¹:=by
 have D:y.num.natAbs≠0:=fun e=>h (fG.1 (it.1 e));have e:y⁻¹=qOf (decide (y<0)) y.den y.num.natAbs:=by
  have:=q_div 1 y h;rw [show decide ((1:Rat)<0)=false from by decide,show (1:Rat).num.natAbs=1 from rfl,show (1:Rat).den=1 from rfl,eG,eG,iD,gZ] at this;rw [this];cases decide (y<0)<;>rfl
 have s:Nat.gcd y.den y.num.natAbs=1:=by rw [gx];exact y.reduced
 obtain ⟨F,G⟩:=zFF h;rw [e,<- F];exact IsR.mkS (by have:=sign3 y;omega) y.den_nz D (by rw [s,fI];exact C) (by rw [s,fI];exact z)
theorem sz_inv:sz y⁻¹=sz y:=by
 by_cases h:y=0
 . rw [h,Rat.inv_zero]
 . have s:y.num.natAbs≠0:=fun e=>h (fG.1 (it.1 e));have e:y⁻¹=qOf (decide (y<0)) y.den y.num.natAbs:=by
    have:=q_div 1 y h;rw [show decide ((1:Rat)<0)=false from by decide,show (1:Rat).num.natAbs=1 from rfl,show (1:Rat).den=1 from rfl,eG,eG,iD,gZ] at this;rw [this];cases decide (y<0)<;>rfl
   have z:Nat.gcd y.den y.num.natAbs=1:=by rw [gx];exact y.reduced
   unfold sz;rw [e,zIo s,zLB s,z,fI,fI];omega
theorem zNm (z:IsR w u x) (Z:IsR w v y) (hr:Room x y):Ret prog 198 #[u,v] w (fun r w'=>∃ t,r = .tuple #[t,.int .i64 (if y=0 then 8 else 0)]/\IsR w' t (x/y)):=by
 obtain ⟨xn,xd,H,I,J⟩:=id z;obtain ⟨xp,xl,xc,rfl,-⟩:=I.form;obtain ⟨aj,ak,al,rfl,-⟩:=J.form;subst H;obtain ⟨yn,yd,L,h,e⟩:=Z;obtain ⟨yp,yl,yc,rfl,-⟩:=h.form;obtain ⟨M,N,U,rfl,-⟩:=e.form;subst L;refine J0 19 func198 rfl (rj ?_);refine K1 (zn (Z3 E0 z.ext h.ext e.ext fun b1 w1 E0 z h e hgb1 hB1 => ?_));refine K1 (zn (Z4a E0 z.ext h.ext e.ext hB1.ext hB1.lt fun b2 w2 E0 z h e hB1 hgb2 ne_b1_b2 hB2 => ?_));refine K1 (zR zero50 (Z5b E0 z.ext h.ext e.ext hB1.ext hB2.ext hB1.lt hB2.lt fun b3 w3 E0 z h e hB1 hB2 hgb3 ne_b1_b3 ne_b2_b3 s=>ag (rM 28 ?_)));refine zA (zA ?_);rcases (show y=0\/y≠0 from iu _) with C | C
 . have F:(y.num.sign==0)=true:=by rw [C];rfl
   refine K6 (K1 (zB zBL rfl (K1 (zD zAT rfl hB2 rfl (K8 rfl (rS 284 ?_))))));refine wct (cW Value.bool F) (rj (K1 (zV (cs := #[.int .i64 0,.slice none 0 0,.slice none 0 0]) kR (K1 (zc zGB rfl s rfl (cw rfl) dE rfl fun w4 D G => ?_)))));replace E0:=E0.upd D hgb3;replace z:=z.upd D s dE;replace h:=h.upd D s dE;replace e:=e.upd D s dE;replace hB1:=hB1.upd D ne_b1_b3;replace hB2:=hB2.upd D ne_b2_b3;clear s;have s:=G;refine ag (rM 48 ?_);refine zE (zU (zM ?_));exact ⟨rfl,_,za rfl rfl rfl rfl zAS s rfl,E0,_,by rw [cD C];rfl,IsR.zero' (by rw [C,iD,Rat.inv_zero,ed])⟩
 . have F:(y.num.sign==0)=false:=dk.2 (zFF C).2;rw [ct C] at e;refine K6 (K1 (zB zBL rfl (K1 (zD zAT rfl hB2 rfl (K8 rfl (rS 284 ?_))))));refine wcf (cW Value.bool F) (sk (rj (K1 (zh zAS rfl hB1 (cw rfl) (K1 (zB zBL rfl (K1 (zD zAT rfl hB2 rfl (K1 (zB zCL rfl (K1 (zD zAi rfl hB2 rfl (K1 (zB zEf rfl (K1 (zD zAi rfl hB2 rfl (K1 (zV (cs := #[.int .i64 y.num.sign,.slice M N U,.slice yp yl yc]) kR ?_))))))))))))))))));refine K1 (j6 E0 z.ext h.ext e.ext hB1.ext hB2.ext s.ext yB (Mul_ok z (IsR.inv C h e) (by unfold Room;rw [sz_inv];exact hr)) fun v3_8 w4 E0 z h e hB1 hB2 s N1 => ?_);refine K1 (runs_rstoreK rfl N1 (Cell3.of s rfl) fun _ w9 D G => ?_);replace E0:=E0.upd D hgb3;obtain ⟨cs,V,X,Y⟩:=G;refine ag (rM 48 ?_);refine zE (zM ?_);exact ⟨rfl,_,za rfl rfl rfl rfl zAS V X,E0,_,by rw [ct C];rfl,by rw [iD];exact Y⟩
theorem zHV (C:x≠0) (D:y≠0):x.num.sign=y.num.sign↔decide (x<0)=decide (y<0):=by
 rcases zDn C with ⟨e,h⟩ | ⟨e,h⟩<;>rcases zDn D with ⟨s,z⟩ | ⟨s,z⟩<;>rw [e,h,s,z]<;>decide
theorem add_same (e:x≠0) (s:y≠0) (z:x.num.sign=y.num.sign) (h:IsR w v (qOf (decide (x.num.sign<0)) (if x.num.sign=0 then 0 else x.num.natAbs*y.den+y.num.natAbs*x.den) (x.den*y.den))):IsR w v (x+y):=by
 obtain ⟨C,D⟩:=zFF e;rw [ct D,C,<- zMC x y ((zHV e s).1 z)] at h;exact h
theorem add_less (z:x≠0) (s:y≠0) (C:x.num.sign≠y.num.sign) (D:x.num.natAbs*y.den<y.num.natAbs*x.den) (h:IsR w v (qOf (decide (y.num.sign<0)) (if y.num.sign=0 then 0 else y.num.natAbs*x.den-x.num.natAbs*y.den) (x.den*y.den))):IsR w v (x+y):=by
 obtain ⟨F,G⟩:=zFF s;rw [ct G,F,<- zIp x y (fun e=>C ((zHV z s).2 e)) (eU D)] at h;exact h
theorem add_more (s:x≠0) (z:y≠0) (C:x.num.sign≠y.num.sign) (D:¬ x.num.natAbs*y.den<y.num.natAbs*x.den) (h:IsR w v (qOf (decide (x.num.sign<0)) (if x.num.sign=0 then 0 else x.num.natAbs*y.den-y.num.natAbs*x.den) (x.den*y.den))):IsR w v (x+y):=by
 obtain ⟨F,G⟩:=zFF s;rw [ct G,F,<- zMB x y (fun e=>C ((zHV s z).2 e)) (ft D)] at h;exact h
theorem zFH (J:IsR w u x) (L:IsR w v y) (N:Room x y):Ret prog 113 #[u,v] w (fun r w'=>IsR w' r (x+y)):=by
 have M:=N.roomy;obtain ⟨xn,xd,aK,H,D⟩:=id J;obtain ⟨xp,xl,xc,rfl,-⟩:=H.form;obtain ⟨ap,aq,ar,rfl,-⟩:=D.form;subst aK;obtain ⟨yn,yd,aM,I,G⟩:=id L;obtain ⟨yp,yl,yc,rfl,-⟩:=I.form;obtain ⟨aN,aO,aP,rfl,-⟩:=G.form;subst aM;refine J0 77 func113 rfl (rj ?_);refine K1 (zn (Z6 E0 J.ext L.ext H.ext D.ext I.ext G.ext fun b1 w1 E0 J L H D I G hgb1 z => ?_));refine K1 (zn (Z7a E0 J.ext L.ext H.ext D.ext I.ext G.ext z.ext z.lt fun b2 w2 E0 J L H D I G z hgb2 ne_b1_b2 C => ?_));refine K1 (zR zero50 (Z8b E0 J.ext L.ext H.ext D.ext I.ext G.ext z.ext C.ext z.lt C.lt fun b3 w3 E0 J L H D I G z C hgb3 ne_b1_b3 ne_b2_b3 F=>rM 28 ?_));refine zA (zA ?_);rcases (show x=0\/x≠0 from iu _) with h0 | h0
 . have hz:(x.num.sign==0)=true:=by rw [h0];rfl
   have an:True:=trivial;refine K6 (K1 (zB zBL rfl (K1 (zD zAT rfl z rfl (K8 rfl (rS 1052 ?_))))));refine wct (cW Value.bool hz) (rj (K1 (zh zAS rfl C (cw rfl) (K1 (runs_rstoreK rfl L (Cell3.of F rfl) fun _ w9 hU hN => ?_)))));replace E0:=E0.upd hU hgb3;obtain ⟨cs,U,V,X⟩:=hN;refine rM 28 ?_;refine zE (zU (zM ?_));exact ⟨rfl,_,zq rfl rfl rfl zAS U V,E0,by rw [h0,gs];exact X⟩
 . have hz:(x.num.sign==0)=false:=dk.2 (zFF h0).2;rw [ct h0] at D;have an:True:=trivial;refine K6 (K1 (zB zBL rfl (K1 (zD zAT rfl z rfl (K8 rfl (rS 1052 ?_))))));refine wcf (cW Value.bool hz) (sk (zA (zA ?_)));rcases (show y=0\/y≠0 from iu _) with h1 | h1
   . have am:(y.num.sign==0)=true:=by rw [h1];rfl
     refine K6 (K1 (zB zBL rfl (K1 (zD zAT rfl C rfl (K8 rfl (rS 16412 ?_))))));refine wct (cW Value.bool am) (rj (K1 (zh zAS rfl z (cw rfl) (K1 (runs_rstoreK rfl J (Cell3.of F rfl) fun _ w9 hU hN => ?_)))));replace E0:=E0.upd hU hgb3;obtain ⟨cs,U,V,X⟩:=hN;refine rM 28 ?_;refine zE (zU (zM ?_));exact ⟨rfl,_,zq rfl rfl rfl zAS U V,E0,by rw [h1,eD];exact X⟩
   . have am:(y.num.sign==0)=false:=dk.2 (zFF h1).2;rw [ct h1] at G;refine K6 (K1 (zB zBL rfl (K1 (zD zAT rfl C rfl (K8 rfl (rS 16412 ?_))))));refine wcf (cW Value.bool am) (sk (zA (zAe [[4],[1],[6],[1],[4],[1],[9],[7],[5]] mixed kR fun K hK=>du (fun s h=>zB zEf h.1 eR) (du (fun s h=>zD zAi h.1 (z.ext s) rfl eR) (du (fun s h=>zB zEf h.1 eR) (du (fun s h=>zD zAi h.1 (C.ext s) rfl eR) (du (fun s h=>zB zCL h.1 eR) (du (fun s h=>zD zAi h.1 (z.ext s) rfl eR) (dA aL (dA aL (dA aL (zAJ (hK _ fun wq s => ?_)))))))))))));rintro _ rfl _ rfl _ rfl _ rfl _ rfl _ rfl _ rfl _ rfl _ rfl;refine zY ?_;obtain ⟨E0,J,L,H,D,I,G,z,C,F⟩:=V9 s E0 J.ext L.ext H.ext D.ext I.ext G.ext z.ext C.ext F.ext;refine zK (K5 [2,3,4,5,6,7] ?_)
     refine zBZ (fun ρ w'=>∃ va vb vc,Keep ρ [(2,.pointer (some ⟨b1,0,none⟩)),(3,.pointer (some ⟨b2,0,none⟩)),(4,.pointer (some ⟨b3,0,none⟩)),(5,va),(6,vb),(7,vc)]/\Ext w w'/\IsN w' va (x.num.natAbs*y.den)/\IsN w' vb (y.num.natAbs*x.den)/\IsN w' vc (x.den*y.den)/\Blk w' b1 50 [.int .i64 x.num.sign,.slice xp xl xc,.slice ap aq ar]/\Blk w' b2 50 [.int .i64 y.num.sign,.slice yp yl yc,.slice aN aO aP]/\Blk w' b3 50 [.int .i64 0,(.slice none 0 0),(.slice none 0 0)]) ?_ ?_
     . refine zA ?_;rcases (oM:(x.den=1/\y.den=1)\/(x.den=1/\y.den≠1)\/x.den≠1) with ⟨d1,d2⟩ | ⟨d1,d2⟩ | d1
       . skip
         refine K6 (K1 (zB zCL rfl (K1 (zD zAi rfl z rfl (K1 (j9 E0 J.ext L.ext H.ext D.ext I.ext G.ext z.ext C.ext F.ext yB (zCZ D) fun al w4 E0 J L H D I G z C F N => ?_))))));obtain rfl:=N.trans (cW Value.bool (cZ d1));refine K1 (zp rfl (mv (K2 (zB zCL rfl (K2 (zD zAi rfl C rfl (K2 (j9 E0 J.ext L.ext H.ext D.ext I.ext G.ext z.ext C.ext F.ext yB (zCZ G) fun v6_7 w5 E0 J L H D I G z C F N => ?_))))))));obtain rfl:=N.trans (cW Value.bool (cZ d2));refine K2 (zp rfl (pc0 rfl (rS 2147483900 ?_)));refine wcf rfl (zw (zL ?_));exact ⟨rfl,.slice xp xl xc,.slice yp yl yc,.slice ap aq ar,(kp rfl),E0,by rw [d2,fT];exact H,by rw [d1,fT];exact I,by rw [d1,d2];rw [d1] at D;exact D,z,C,F⟩
       . skip
         refine K6 (K1 (zB zCL rfl (K1 (zD zAi rfl z rfl (K1 (j9 E0 J.ext L.ext H.ext D.ext I.ext G.ext z.ext C.ext F.ext yB (zCZ D) fun al w4 E0 J L H D I G z C F N => ?_))))));obtain rfl:=N.trans (cW Value.bool (cZ d1));refine K1 (zp rfl (mv (K2 (zB zCL rfl (K2 (zD zAi rfl C rfl (K2 (j9 E0 J.ext L.ext H.ext D.ext I.ext G.ext z.ext C.ext F.ext yB (zCZ G) fun v6_7 w5 E0 J L H D I G z C F N => ?_))))))));obtain rfl:=N.trans (cW Value.bool (cU d2));refine K2 (zp rfl (pc0 rfl (rS 2147483900 ?_)))
         refine wct rfl (zAe [[4],[1],[6],[1],[5,1],[6],[1],[4],[1],[5,1],[4],[1],[6],[1],[5,1],[21],[13],[5]] mixed kR fun K hK=>du (fun s h=>zB zEf h.1 eR) (du (fun s h=>zD zAi h.1 (z.ext s) rfl eR) (du (fun s h=>zB zCL h.1 eR) (du (fun s h=>zD zAi h.1 (C.ext s) rfl eR) (dl (fun s h=>zCX (IsN.of_eq h.1 (H.ext s)) (IsN.of_eq h.2.1 (G.ext s)) M.xn M.yd) (du (fun s h=>zB zEf h.1 eR) (du (fun s h=>zD zAi h.1 (C.ext s) rfl eR) (du (fun s h=>zB zCL h.1 eR) (du (fun s h=>zD zAi h.1 (z.ext s) rfl eR) (dl (fun s h=>zCX (IsN.of_eq h.1 (I.ext s)) (IsN.of_eq h.2.1 (D.ext s)) M.yn M.xd) (du (fun s h=>zB zCL h.1 eR) (du (fun s h=>zD zAi h.1 (z.ext s) rfl eR) (du (fun s h=>zB zCL h.1 eR) ?_)))))))))))));refine du (fun s h=>zD zAi h.1 (C.ext s) rfl eR) (dl (fun s h=>zCX (IsN.of_eq h.1 (D.ext s)) (IsN.of_eq h.2.1 (G.ext s)) M.xd M.yd) (dC (fun v w'=>IsN w' v (x.num.natAbs*y.den)) (fun s h=>zr (eX h.1)) (dC (fun v w'=>IsN w' v (y.num.natAbs*x.den)) (fun s h=>zr (eX h.1)) (dC (fun v w'=>IsN w' v (x.den*y.den)) (fun s h=>zr (eX h.1)) (zAJ (hK _ fun wq s => ?_))))))
         rintro _ rfl _ rfl _ rfl _ rfl aQ aR _ rfl _ rfl _ rfl _ rfl aS aU _ rfl _ rfl _ rfl _ rfl aV aW v5 N5 v6 N6 v7 N7;refine zY ?_;obtain ⟨E0,J,L,H,D,I,G,z,C,F⟩:=V9 s E0 J.ext L.ext H.ext D.ext I.ext G.ext z.ext C.ext F.ext;exact zL ⟨rfl,v5,v6,v7,(kp rfl),E0,N5,N6,N7,z,C,F⟩
       . skip
         refine K6 (K1 (zB zCL rfl (K1 (zD zAi rfl z rfl (K1 (j9 E0 J.ext L.ext H.ext D.ext I.ext G.ext z.ext C.ext F.ext yB (zCZ D) fun al w4 E0 J L H D I G z C F N => ?_))))));obtain rfl:=N.trans (cW Value.bool (cU d1));refine K1 (zp rfl (mv (K3 (K3 (K3 (K3 (pc0 rfl (rS 2147483900 ?_))))))));refine wct rfl (zAe [[4],[1],[6],[1],[5,1],[6],[1],[4],[1],[5,1],[4],[1],[6],[1],[5,1],[21],[13],[5]] mixed kR fun K hK=>du (fun s h=>zB zEf h.1 eR) (du (fun s h=>zD zAi h.1 (z.ext s) rfl eR) (du (fun s h=>zB zCL h.1 eR) (du (fun s h=>zD zAi h.1 (C.ext s) rfl eR) (dl (fun s h=>zCX (IsN.of_eq h.1 (H.ext s)) (IsN.of_eq h.2.1 (G.ext s)) M.xn M.yd) (du (fun s h=>zB zEf h.1 eR) (du (fun s h=>zD zAi h.1 (C.ext s) rfl eR) (du (fun s h=>zB zCL h.1 eR) (du (fun s h=>zD zAi h.1 (z.ext s) rfl eR) (dl (fun s h=>zCX (IsN.of_eq h.1 (I.ext s)) (IsN.of_eq h.2.1 (D.ext s)) M.yn M.xd) (du (fun s h=>zB zCL h.1 eR) (du (fun s h=>zD zAi h.1 (z.ext s) rfl eR) (du (fun s h=>zB zCL h.1 eR) ?_)))))))))))))
         refine du (fun s h=>zD zAi h.1 (C.ext s) rfl eR) (dl (fun s h=>zCX (IsN.of_eq h.1 (D.ext s)) (IsN.of_eq h.2.1 (G.ext s)) M.xd M.yd) (dC (fun v w'=>IsN w' v (x.num.natAbs*y.den)) (fun s h=>zr (eX h.1)) (dC (fun v w'=>IsN w' v (y.num.natAbs*x.den)) (fun s h=>zr (eX h.1)) (dC (fun v w'=>IsN w' v (x.den*y.den)) (fun s h=>zr (eX h.1)) (zAJ (hK _ fun wq s => ?_))))));rintro _ rfl _ rfl _ rfl _ rfl aQ aR _ rfl _ rfl _ rfl _ rfl aS aU _ rfl _ rfl _ rfl _ rfl aV aW v5 N5 v6 N6 v7 N7;refine zY ?_;obtain ⟨E0,J,L,H,D,I,G,z,C,F⟩:=V9 s E0 J.ext L.ext H.ext D.ext I.ext G.ext z.ext C.ext F.ext;exact zL ⟨rfl,v5,v6,v7,(kp rfl),E0,N5,N6,N7,z,C,F⟩
     . skip
       rintro bh w2 ⟨va,vb,vc,h,E0,Y,Z,hD,z,C,F⟩;refine wpe_k _ h ?_;refine zA (rj (K1 (zB zBL rfl (K1 (zD zAT rfl z rfl (K1 (zB zBL rfl (K1 (zD zAT rfl C rfl (K8 rfl (rm [2,3,4,5,6,7,51] ?_)))))))))));refine K0 rfl ?_ ?_<;>intro hc
       . have ai:x.num.sign=y.num.sign:=gC hc;refine zA (zAR none 7 [[4],[1],[10],[12],[3,1],[14],[9,3,1]] mixed kR fun K hK=>du (fun s h=>zB zBL h.1 eR) (du (fun s h=>zD zAT h.1 (z.ext s) rfl eR) (dM aL (dM aL (dl (fun s h=>zNL (IsN.of_eq h.1 (Y.ext s)) (IsN.of_eq h.2.1 (Z.ext s)) M.nd.fit M.nd'.fit) (dM aL (dC (fun v w'=>IsR w' v (x+y)) (fun s h=>zJ yB (CallK.eq3 h.1 rfl rfl (CallK.of_ret (zGQ (sign3 x) h.2.1 (IsN.of_eq h.2.2.1 (hD.ext s)) (gt x.den_nz y.den_nz) (M.add) M.dd) fun v w2 hX N=>⟨hX,add_same h0 h1 ai N⟩)) rfl) (zAJ (hK _ fun wq s => ?_)))))))));rintro _ rfl _ rfl _ rfl _ rfl v56 N56 _ rfl v58 N58;refine zY ?_;obtain ⟨E0,Y,Z,hD,z,C,F⟩:=V6 s E0 Y.ext Z.ext hD.ext z.ext C.ext F.ext;refine K1 (runs_rstoreK rfl N58 (Cell3.of F rfl) fun _ w9 hU hN => ?_);replace E0:=E0.upd hU hgb3;obtain ⟨cs,U,V,X⟩:=hN;refine zAh (zK (K5 [2,3,4] ?_));exact zE (zU (zM ⟨rfl,_,zq rfl rfl rfl zAS U V,E0,X⟩))
       . have ai:x.num.sign≠y.num.sign:=fun e=>by rw [e] at hc;simp at hc
         refine sk (zA (rJ (mv (K1 (j6 E0 Y.ext Z.ext hD.ext z.ext C.ext F.ext yB (zJp Y Z M.nd.fit M.nd'.fit) fun aX w4 E0 Y Z hD z C F N => ?_)))));obtain ⟨c,rfl,au⟩:=N;refine K8 rfl (rm [2,3,4,5,6,7,62] ?_);refine K0 rfl ?_ ?_<;>intro hc
         . have av:=au.1.1 (dh hc);refine zA (zAR none 7 [[6],[1],[12],[10],[3,1],[14],[9,3,1]] mixed kR fun K hK=>du (fun s h=>zB zBL h.1 eR) (du (fun s h=>zD zAT h.1 (C.ext s) rfl eR) (dM aL (dM aL (dl (fun s h=>zNB (IsN.of_eq h.1 (Z.ext s)) (IsN.of_eq h.2.1 (Y.ext s)) M.nd'.fit (eU av)) (dM aL (dC (fun v w'=>IsR w' v (x+y)) (fun s h=>zJ yB (CallK.eq3 h.1 rfl rfl (CallK.of_ret (zGQ (sign3 y) h.2.1 (IsN.of_eq h.2.2.1 (hD.ext s)) (gt x.den_nz y.den_nz) (M.nd'.le (iL _ _)) M.dd) fun v w2 hX N=>⟨hX,add_less h0 h1 ai av N⟩)) rfl) (zAJ (hK _ fun wq s => ?_)))))))));rintro _ rfl _ rfl _ rfl _ rfl v67 N67 _ rfl v69 N69;refine zY ?_;obtain ⟨E0,Y,Z,hD,z,C,F⟩:=V6 s E0 Y.ext Z.ext hD.ext z.ext C.ext F.ext;refine K1 (runs_rstoreK rfl N69 (Cell3.of F rfl) fun _ w9 hU hN => ?_);replace E0:=E0.upd hU hgb3;obtain ⟨cs,U,V,X⟩:=hN;refine zAh (zK (K5 [2,3,4] ?_));exact zE (zU (zM ⟨rfl,_,zq rfl rfl rfl zAS U V,E0,X⟩))
         . have aw:¬ x.num.natAbs*y.den<y.num.natAbs*x.den:=fun e=>de hc (au.1.2 e);refine sk (zA (zAR none 7 [[4],[1],[10],[12],[3,1],[14],[9,3,1]] mixed kR fun K hK=>du (fun s h=>zB zBL h.1 eR) (du (fun s h=>zD zAT h.1 (z.ext s) rfl eR) (dM aL (dM aL (dl (fun s h=>zNB (IsN.of_eq h.1 (Y.ext s)) (IsN.of_eq h.2.1 (Z.ext s)) M.nd.fit (ft aw)) (dM aL (dC (fun v w'=>IsR w' v (x+y)) (fun s h=>zJ yB (CallK.eq3 h.1 rfl rfl (CallK.of_ret (zGQ (sign3 x) h.2.1 (IsN.of_eq h.2.2.1 (hD.ext s)) (gt x.den_nz y.den_nz) (M.nd.le (iL _ _)) M.dd) fun v w2 hX N=>⟨hX,add_more h0 h1 ai aw N⟩)) rfl) (zAJ (hK _ fun wq s => ?_))))))))));rintro _ rfl _ rfl _ rfl _ rfl v74 N74 _ rfl v76 N76;refine zY ?_;obtain ⟨E0,Y,Z,hD,z,C,F⟩:=V6 s E0 Y.ext Z.ext hD.ext z.ext C.ext F.ext;refine K1 (runs_rstoreK rfl N76 (Cell3.of F rfl) fun _ w9 hU hN => ?_);replace E0:=E0.upd hU hgb3;obtain ⟨cs,U,V,X⟩:=hN;refine zAh (zK (K5 [2,3,4] ?_));exact zE (zM ⟨rfl,_,zq rfl rfl rfl zAS U V,E0,X⟩)
end Go.Proofs.YtjiendlfobjanaaGreatDoor.R
namespace Go.Proofs.YtjiendlfobjanaaGreatDoor
open Go Go.RowKit Go.Proofs Tryz
variable {E b c cap i ix len n o sz' sz0 sz2:Nat} {K:Value->World->Prop} {P:Program} {T ty:TypeId} {af:Array Edge} {cs row:List Value} {g:Option (Nat×Bool)} {pos:String} {r:Option Nat} {rows:List (List Value)} {v:Value} {w w':World} {σ:Operand->Value}
def RowB (E n sz:Nat) (x:List Nat) (w:World) (v:Value) (rows:List (List Value)):Prop :=
 (∀ r,r∈rows->r.length=n)/\∃ p c,v = .slice p rows.length c/\rows.length<=c/\((rows=[]/\p=none/\c=0)\/∃ b cs,p=some ⟨b,0,none⟩/\sz<=b/\b ∉ x/\Blk w b E cs/\cs.length=n*c/\cs.take (n*rows.length)=rows.flatten)
def RowIn (E n b c:Nat) (w:World) (rows:List (List Value)):Prop:=(∀ r,r∈rows->r.length=n)/\∃ cs,Blk w b E cs/\cs.length=n*c/\cs.take (n*rows.length)=rows.flatten
def zCY (E sz:Nat) (row:List Value) (v:Value) (w:World):Prop:=∃ b,v = .slice (some ⟨b,0,none⟩) 1 1/\sz<=b/\Blk w b E row
theorem RowB.nil {sz:Nat} {x:List Nat}:RowB E n sz x w (.slice none 0 0) []:=⟨(fun r e=>by cases e),none,0,rfl,cX _,.inl ⟨rfl,rfl,rfl⟩⟩
theorem RowB.ext {sz:Nat} {x:List Nat} (h:RowB E n sz x w v rows) (e:Ext w w'):RowB E n sz x w' v rows:=by
 obtain ⟨s,p,c,z,C,D⟩:=h;refine ⟨s,p,c,z,C,?_⟩;rcases D with h | ⟨b,cs,F,G,H,I,J,L⟩
 . exact .inl h
 . exact .inr ⟨b,cs,F,G,H,I.ext e,J,L⟩
theorem zCY.ext {sz:Nat} (h:zCY E sz row v w) (e:Ext w w'):zCY E sz row v w':=by
 obtain ⟨b,s,z,C⟩:=h;exact ⟨b,s,z,C.ext e⟩
theorem zCY.le {sz:Nat} (h:zCY E sz row v w) (e:sz'<=sz):zCY E sz' row v w:=by
 obtain ⟨b,s,z,C⟩:=h;exact ⟨b,s,dz e z,C⟩
theorem RowB.upd {sz:Nat} {x:List Nat} (h:RowB E n sz x w v rows) (z:Upd c w w') (C:Blk w c T cs) (D:T≠E):RowB E n sz x w' v rows:=by
 obtain ⟨F,p,k,G,H,I⟩:=h;refine ⟨F,p,k,G,H,?_⟩;rcases I with h | ⟨b,cs',J,L,M,s,N,U⟩
 . exact .inl h
 . exact .inr ⟨b,cs',J,L,M,s.upd z fun e=>by subst e;exact D (C.inj s).1,N,U⟩
theorem RowB.updX {sz:Nat} {x:List Nat} (h:RowB E n sz x w v rows) (z:Upd c w w') (C:c∈x):RowB E n sz x w' v rows:=by
 obtain ⟨D,p,k,F,G,H⟩:=h;refine ⟨D,p,k,F,G,?_⟩;rcases H with h | ⟨b,cs',I,J,s,L,M,N⟩
 . exact .inl h
 . exact .inr ⟨b,cs',I,J,s,L.upd z fun e=>by subst e;exact s C,M,N⟩
theorem RowB.form {sz:Nat} {x:List Nat} (h:RowB E n sz x w v rows):∃ p c,v = .slice p rows.length c:=by
 obtain ⟨s,p,c,e,-⟩:=h;exact ⟨p,c,e⟩
theorem RowB.sub {sz:Nat} {x y:List Nat} (h:RowB E n sz x w v rows) (e:∀ b∈y,b∈x):RowB E n sz y w v rows:=by
 obtain ⟨s,p,c,z,C,D⟩:=h;refine ⟨s,p,c,z,C,?_⟩;rcases D with h | ⟨b,cs,F,G,H,I,J,L⟩
 . exact .inl h
 . exact .inr ⟨b,cs,F,G,fun M=>H (e b M),I,J,L⟩
theorem RowB.new {sz y:Nat} {x:List Nat} (h:RowB E n sz x w v rows) (M:w.heap.size<=y):RowB E n sz (y :: x) w v rows:=by
 obtain ⟨s,p,c,z,C,D⟩:=h;refine ⟨s,p,c,z,C,?_⟩;rcases D with h | ⟨b,cs,F,G,H,e,I,J⟩
 . exact .inl h
 . exact .inr ⟨b,cs,F,G,fun L=>by
    rcases eY.1 L with h | h
    . have:=e.lt;omega
    . exact H h,e,I,J⟩
theorem RowB.cases {sz:Nat} {x:List Nat} (h:RowB E n sz x w v rows) :
 (∃ b c,v = .slice (some ⟨b,0,none⟩) rows.length c/\rows.length+1<=c/\sz<=b/\b ∉ x/\RowIn E n b c w rows)\/(∃ p c,v = .slice p rows.length c/\c<rows.length+1):=by
 obtain ⟨D,p,c,e,L,F⟩:=h;by_cases G:rows.length+1<=c
 . rcases F with ⟨s,z,C⟩ | ⟨b,cs,s,z,C,H,I,J⟩
   . omega
   . exact .inl ⟨b,c,by rw [e,s],G,z,C,D,cs,H,I,J⟩
 . exact .inr ⟨p,c,e,oM⟩
theorem RowIn.acc {sz:Nat} {x:List Nat} (h:RowIn E n b c w rows) (e:sz<=b) (s:b ∉ x) (z:rows.length<=c):RowB E n sz x w (.slice (some ⟨b,0,none⟩) rows.length c) rows:=by
 obtain ⟨C,cs,D,F,G⟩:=h;exact ⟨C,_,c,rfl,z,.inr ⟨b,cs,rfl,e,s,D,F,G⟩⟩
theorem RowIn.blk (h:RowIn E n b c w rows):∃ cs,Blk w b E cs:=by obtain ⟨s,cs,e,_⟩:=h;exact ⟨cs,e⟩
theorem zLM:∀ (e cs:List Value) (o:Nat),o+e.length<=cs.length->(zBr cs o e).take (o+e.length)=cs.take o++e
 | [],cs,o,_=>by simp [zBr]
 | v :: e,cs,o,h=>by
  simp only [et] at h ⊢;show (zBr (cs.set o v) (o+1) e).take _=_;rw [show o+(e.length+1)=o+1+e.length by omega,zLM e (cs.set o v) (o+1) (by rw [ff];omega)];rw [dG (by rw [ff];omega),gQ (cX o),List.getElem_set_self,dU];rfl
theorem zFp {n:Nat}:∀ {rows:List (List Value)},(∀ r,r∈rows->r.length=n)->rows.flatten.length=n*rows.length
 | [],_=> sM
 | r :: rows,h=>by
  rw [gn,dN,zFp fun x e=>h x (List.mem_cons_of_mem _ e),h r iv,et,Nat.mul_succ,iH]
theorem zRQ (h:∀ r,r∈rows->r.length=n) (s:row.length=n):∀ r,r∈rows++[row]->r.length=n:=fun r z=>by
 rcases gD.1 z with e | e
 . exact h r e
 . rw [dI.1 e];exact s
section laws
variable {d:Option Tmp}
structure RowT (P:Program) (T E n:Nat):Prop where
 sl:P.underlying T=some (.slice E)
 el:∃ z bytes,(P.info? E).map (fun i=>(i.zero,i.size,i.bytes))=some (some z,n,bytes)/\z.cells.size=n/\0<bytes/\bytes<=128
theorem runs_rowE_in {T sz:Nat} {x y:Operand} (C:RowT P T E n) (H:σ x = .slice (some ⟨b,0,none⟩) rows.length c) (F:rows.length+1<=c) (I:RowIn E n b c w rows) (J:zCY E sz row (σ y) w) (h:row.length=n) (D:row.all zDT=true) :
 Runs P r ⟨d,.call { callee := .builtin .append,args := #[x,y],argTypes := #[T,T] },ty,pos,af,g⟩ σ w (fun v w'=>ExtS [b] w w'/\RowIn E n b c w' (rows++[row])/\v = .slice (some ⟨b,0,none⟩) (rows++[row]).length c):=by
 obtain ⟨L,cs,M,G,N⟩:=I;obtain ⟨b2,U,_,V⟩:=J;obtain ⟨z,bytes,X,hz,aa,ad⟩:=C.el;have hle:(rows.length+1)*n<=cs.length:=by rw [G,dm n];exact dx n F
 refine zAz (n:=n) C.sl C.sl X H U M (Cells.blk V) (by rw [h,eG]) F oM D fun w' Y Z=>⟨Y.toS sM,⟨zRQ L h,_,Z,by rw [zAu];exact G,?_⟩,sM⟩;rw [dW,dN,gf,dV,fT,dm rows.length n];have hs:=zLM row cs (n*rows.length) (by rw [h];rw [eF,eG,dm] at hle;exact hle);rw [h] at hs;rw [hs,N,List.flatten_append];simp
theorem runs_rowE_grow {T sz:Nat} {V xx:List Nat} {x y:Operand} {p:Option Addr} (H:RowT P T E n) (X:σ x = .slice p rows.length c) (Y:RowB E n sz0 V w (.slice p rows.length c) rows) (hc:c<rows.length+1) (Z:zCY E sz2 row (σ y) w) (F:row.length=n) (hl:rows.length<100000) (hs:sz<=w.heap.size) (I:∀ y∈xx,y<w.heap.size) :
 Runs P r ⟨d,.call { callee := .builtin .append,args := #[x,y],argTypes := #[T,T] },ty,pos,af,g⟩ σ w (fun v w'=>Ext w w'/\RowB E n sz xx w' v (rows++[row])):=by
 obtain ⟨b2,h,_,N⟩:=Z;obtain ⟨s,p',C,h1,h2,h3⟩:=Y;cases h1;obtain ⟨z,bytes,hi,U,J,L⟩:=H.el;have hnew:=zAc (rows.length+1) c;have hold:Cells w p E rows.flatten:=by
  rcases h3 with ⟨h,_,_⟩ | ⟨b,cs,h,N,e3,e4,e5,e6⟩
  . subst h;exact .inl rfl
  . exact .inr ⟨b,0,cs,h,e4,by rw [zFp s,eT];exact e6⟩
 have D:Builtin.nextslicecap (rows.length+1) c*bytes<=281474976710656:=by
  have:Builtin.nextslicecap (rows.length+1) c*bytes<=500000*128:=fs oM L;omega
 refine zAW (n:=n) H.sl H.sl hi U J X h hold (by rw [zFp s,dm]) (Cells.blk N) (by rw [F,eG]) oM D fun w' rest C g1 hE hB g2 _=>⟨hE,zRQ s F,_,C,sM,by simpa using g1,.inr ⟨w.heap.size,_,rfl,hs,fun hm=>by have:=I _ hm;omega,hB,?_,?_⟩⟩
 . have M:rest.length=(C-(rows.length+1))*n:=by rw [g2];simp [Builtin.zeroCells,U]
   rw [dN,dN,zFp s,F,M];obtain ⟨k,rfl⟩:∃ k,C=rows.length+1+k:=⟨C-(rows.length+1),oM⟩;rw [show rows.length+1+k-(rows.length+1)=k by omega,dV,dV,fT,dm k]
 . have hf:(rows.flatten++row).length=n*(rows++[row]).length:=by rw [dN,zFp s,F,dN,gf,dV,fT]
   rw [eV oM,dF oM,List.flatten_append];simp
structure NearR (E sz:Nat) (x:List Nat) (w w':World):Prop where
 nc:NC w w'
 ext:∀ W:World,W.heap.size<=sz->Ext W w->Ext W w'
 blk:∀ b T cs,(b<sz\/b∈x\/T≠E)->Blk w b T cs->Blk w' b T cs
 size:w.heap.size<=w'.heap.size
theorem NearR.of_ext {sz:Nat} {x:List Nat} (h:Ext w w'):NearR E sz x w w':=⟨NC.ext h,fun _ _ e=>e.trans h,fun _ _ _ _ s=>s.ext h,h.size⟩
theorem NearR.of_extS {sz:Nat} {x:List Nat} (h:ExtS [b] w w') (J:sz<=b) (C:b ∉ x) (G:RowIn E n b c w rows):NearR E sz x w w':=by
 obtain ⟨I,z⟩:=G.blk;refine ⟨NC.extS h z,fun W L C=>C.updSS h (fun c H=>by rw [dI.1 H];omega),fun D T cs s F => ?_,h.size⟩;have hne:D≠b:=fun e=>by
  subst e;rcases s with s | s | s
  . omega
  . exact C s
  . exact s (F.inj z).1
 show w'.heap[D]? = _;rw [h.block D F.lt (by rw [dI];exact hne)];exact F
theorem zDI {T sz:Nat} {xx:List Nat} {x y:Operand} (M:RowT P T E n) (z:σ x=v) (G:RowB E n sz xx w v rows) (N:zCY E sz2 row (σ y) w) (U:row.length=n) (J:row.all zDT=true) (Z:rows.length<100000) (hs:sz<=w.heap.size) (L:∀ y∈xx,y<w.heap.size)
 (V:∀ C w',NearR E sz xx w w'->RowB E n sz xx w' C (rows++[row])->K C w'):Runs P r ⟨d,.call { callee := .builtin .append,args := #[x,y],argTypes := #[T,T] },ty,pos,af,g⟩ σ w K:=by
 rcases G.cases with ⟨b,c,e,D,X,s,Y⟩ | ⟨p,c,e,D⟩
 . rw [e] at z;refine Runs.mono (runs_rowE_in M z D Y N U J) fun C w' ⟨H,I,h3⟩ => ?_;refine V _ _ (NearR.of_extS H X s Y) ?_;rw [h3];exact I.acc X s (by simpa using D)
 . rw [e] at z G;refine Runs.mono (runs_rowE_grow (sz:=sz) (xx:=xx) M z G D N U Z hs L) fun C w' ⟨H,I⟩ => ?_;exact V _ _ (NearR.of_ext H) I
end laws
theorem zPj {n:Nat}:∀ {rows:List (List Value)} {i:Nat},(∀ r,r∈rows->r.length=n)->i<rows.length->(rows.flatten.drop (n*i)).take n=rows.getD i []
 | [],i,_,e=>by simp at e
 | r :: rows,0,h,_=>by
  rw [fW,eT,gn,eV (by rw [h r iv];exact cX _),dF (by rw [h r iv];exact cX _)];rfl
 | r :: rows,i+1,h,e=>by
  have s:=h r iv;rw [gn,Nat.mul_succ,iI,eJ (by rw [s];exact Nat.le_add_left _ _),gu,s,dD];exact zPj (fun x hx=>h x (List.mem_cons_of_mem _ hx)) (by simpa using e)
def RowR (E n:Nat) (w:World) (p:Option Addr) (rows:List (List Value)):Prop:=rows=[]\/∃ b cs,p=some ⟨b,0,none⟩/\Blk w b E cs/\n*rows.length<=cs.length/\∀ i,i<rows.length->(cs.drop (n*i)).take n=rows.getD i []
theorem RowR.ext {p:Option Addr} (h:RowR E n w p rows) (e:Ext w w'):RowR E n w' p rows:=by
 rcases h with h | ⟨b,cs,s,z,C,D⟩
 . exact .inl h
 . exact .inr ⟨b,cs,s,z.ext e,C,D⟩
theorem rows_at (e:∀ r,r∈rows->r.length=n) (h:cs.take (n*rows.length)=rows.flatten):n*rows.length<=cs.length/\∀ i,i<rows.length->(cs.drop (n*i)).take n=rows.getD i []:=by
 have z:=cW List.length h;rw [zFp e,eW] at z;refine ⟨oM,fun i s => ?_⟩;rw [<- zPj e s,<- h,gy,gM,dT];have h1:n*(i+1)<=n*rows.length:=dy _ s;rw [Nat.mul_succ] at h1;omega
theorem RowB.rd {sz:Nat} {x:List Nat} (h:RowB E n sz x w v rows):∃ p c,v = .slice p rows.length c/\RowR E n w p rows:=by
 obtain ⟨s,p,c,z,J,C⟩:=h;refine ⟨p,c,z,?_⟩;rcases C with ⟨e,_⟩ | ⟨b,cs,D,L,M,F,N,G⟩
 . exact .inl e
 . obtain ⟨H,I⟩:=rows_at s G;exact .inr ⟨b,cs,D,F,H,I⟩
theorem RowR.at {p:Option Addr} (h:RowR E n w p rows) (e:i<rows.length):∃ b cs,p=some ⟨b,0,none⟩/\Blk w b E cs/\n*i+n<=cs.length/\(cs.drop (n*i)).take n=rows.getD i []:=by
 rcases h with h | ⟨b,cs,s,z,F,C⟩
 . rw [h] at e;simp at e
 . refine ⟨b,cs,s,z,?_,C i e⟩;have D:n*(i+1)<=n*rows.length:=dy _ e;rw [Nat.mul_succ] at D;omega
structure El where
 k:Int
 a:Int
 b:Int
 c:Int
 d:Int
 v:List UInt8
def elc (e:El):List Value:=[.int .i64 e.k,.int .i64 e.a,.int .i64 e.b,.int .i64 e.c,.int .i64 e.d,.int .i64 0,.int .i64 0,S e.v]
theorem zTW:prog.underlying 79=some (.slice 119):=kR
theorem info119:(prog.info? 119).map (fun i=>(i.zero,i.size,i.bytes))=some (some (.agg #[.int .i64 0,.int .i64 0,.int .i64 0,.int .i64 0,.int .i64 0,.int .i64 0,.int .i64 0,.string ⟨#[]⟩]),8,72):=kR
theorem info119':(prog.info? 119).map (fun i=>(i.zero,i.size))=some (some (.agg #[.int .i64 0,.int .i64 0,.int .i64 0,.int .i64 0,.int .i64 0,.int .i64 0,.int .i64 0,.string ⟨#[]⟩]),8):=kR
theorem zero119:(prog.info? 119).bind (·.zero)=some (.agg #[.int .i64 0,.int .i64 0,.int .i64 0,.int .i64 0,.int .i64 0,.int .i64 0,.int .i64 0,.string ⟨#[]⟩]):=kR
theorem size119:(prog.info? 119).map (·.size)=some 8:=kR
theorem zEm:zBH prog 79 119 8:=by unfold zBH;exact ⟨kR,kR⟩
theorem zMg:Aggr prog 119 8:=by unfold Aggr;exact ⟨kR,kR⟩
theorem row79:RowT prog 79 119 8:=⟨zTW,_,_,info119,rfl,dE,dE⟩
theorem zEG:Plain prog 79:=by unfold Plain;exact ⟨kR,kR⟩
theorem zHX:zAG prog 169 0 0:=by unfold zAG;kernel_rfl
theorem zGO:zAG prog 82 0 0:=by unfold zAG;kernel_rfl
theorem zEL:zAG prog 82 1 1:=by unfold zAG;kernel_rfl
theorem zSh:zAG prog 82 2 2:=by unfold zAG;kernel_rfl
theorem fo119_1:zAG prog 119 1 1:=by unfold zAG;kernel_rfl
theorem fo119_2:zAG prog 119 2 2:=by unfold zAG;kernel_rfl
theorem fo119_3:zAG prog 119 3 3:=by unfold zAG;kernel_rfl
theorem fo119_4:zAG prog 119 4 4:=by unfold zAG;kernel_rfl
theorem zSg:zAG prog 119 7 7:=by unfold zAG;kernel_rfl
theorem zRe:(prog.info? 79).map (·.size)=some 1:=kR
theorem size3:(prog.info? 3).map (·.size)=some 1:=kR
theorem zDa:(prog.info? 82).map (·.size)=some 3:=kR
theorem zLS:(prog.info? 82).bind (·.zero)=some (.agg #[.int .i64 0,.slice none 0 0,.slice none 0 0]):=kR
theorem zCs:Aggr prog 82 3:=by unfold Aggr;exact ⟨kR,kR⟩
def mx (a b:Int):Int:=if b>a then b else a
def el0:El:=⟨0,0,0,0,0,[]⟩
def topE (n:Int) (e:El):Int:=mx (mx (mx (mx n e.a) e.b) e.c) e.d
def tops (n:Int) (es:List El):Int:=es.foldl topE n
theorem tops_take {n:Int} {es:List El} (h:i<es.length):tops n (es.take (i+1))=topE (tops n (es.take i)) (es.getD i el0):=by
 unfold tops;rw [dG h,List.foldl_append,cC,cY h];rfl
theorem zMu (e:El):(elc e).length=8:=rfl
theorem zSV (es:List El):∀ r,r∈es.map elc->r.length=8:=fun r hr=>by
 obtain ⟨e,-,rfl⟩:=gI.1 hr;rfl
theorem zSU {es:List El} (h:i<es.length) (d:El):(es.map elc).getD i []=elc (es.getD i d):=by
 rw [cC,fC,cC,cY h];rfl
section laws
variable {d:Option Tmp}
theorem zDW {T:Nat} {x i:Operand} {k:IntKind} (e:zBH P T E n) (h:σ x = .slice (some ⟨b,0,none⟩) len cap) (s:σ i = .int k (ix:Int)) (C:ix<len) (z:K (.pointer (some ⟨b,n*ix,none⟩)) w):Runs P r ⟨d,.indexAddr T x i,ty,pos,af,g⟩ σ w K:=by
 refine zH e h s oM oM ?_;rw [show 0+((ix:Nat):Int).toNat*n=n*ix from by rw [dW,fS,dm]];exact z
theorem zMI {x:Operand} {e:El} (h:σ x = .pointer (some ⟨b,o,none⟩)) (s:o=8*i) (z:Blk w b 119 cs) (C:8*i+8<=cs.length) (he:(cs.drop (8*i)).take 8=elc e) (D:K (.agg (elc e).toArray) w):Runs prog r ⟨d,.load 119 x,ty,pos,af,g⟩ σ w K:=by
 subst s;exact zh zMg h z C (by rw [he];exact D)
theorem zCG {x:Operand} {a:Addr} (h:σ x = .pointer (some a)) (s:K (.pointer (some a)) w):Runs P r ⟨d,.nilCheck x,ty,pos,af,g⟩ σ w K:=by
 refine zy (fun _ e=>by cases e) ?_ s;simp [execOp,h]
theorem runs_max5 {z x2 x3 x4 C:Operand} {a1 a2 a3 a4 a5:Int} (D:σ z = .int .i64 a1) (F:σ x2 = .int .i64 a2) (G:σ x3 = .int .i64 a3) (H:σ x4 = .int .i64 a4) (I:σ C = .int .i64 a5) (J:K (.int .i64 (mx (mx (mx (mx a1 a2) a3) a4) a5)) w):Runs P r ⟨d,.call { callee := .builtin .max,args := #[z,x2,x3,x4,C],argTypes := #[T,T,T,T,T] },ty,pos,af,g⟩ σ w K:=by
 refine zy (fun _ e=>by cases e) ?_ J;simp [execOp,resolve,D,F,G,H,I,invoke,builtin,Builtin.max_,Builtin.max2,mx]
theorem zCk {y:Operand} {e:El} (h:σ y = .agg (elc e).toArray) (s:∀ v w',Ext w w'->zCY 119 w.heap.size (elc e) v w'->K v w'):Runs prog r ⟨d,.buildSlice 79 1 #[(0,y)],ty,pos,af,g⟩ σ w K:=by
 refine zi (cs:=elc e) zTW info119' dE dE ?_ fun b w' z C D F=>s _ _ C ⟨b,rfl,dS z.symm,D⟩;show Instr.fill _ _ [(0,σ y)]=_;rw [h]
 kernel_rfl
end laws
end Go.Proofs.YtjiendlfobjanaaGreatDoor
namespace Go.Proofs.YtjiendlfobjanaaGreatDoor
open Go Go.RowKit Go.Proofs Tryz
set_option maxRecDepth 10000
set_option maxHeartbeats 2000000
attribute [local irreducible] Runs WPE CallK Ret
variable {ab bb i:Nat} {cs:List Value} {es:List El} {nd:Int} {w w0:World}
theorem els_at (h:i<es.length):8*i+8<=(es.map elc).flatten.length/\((es.map elc).flatten.drop (8*i)).take 8=elc (es.getD i el0):=by
 refine ⟨?_,by rw [zPj (zSV es) (by simpa using h),zSU h el0]⟩;rw [zFp (zSV es),dJ];omega
def NKp (w0 w:World):Prop:=NC w0 w/\∀ b T cs,T≠119->T≠169->Blk w0 b T cs->Blk w b T cs
theorem NKp.refl (w:World):NKp w w:=⟨NC.refl w,fun _ _ _ _ _ h=>h⟩
theorem NKp.ext {a b c:World} (h:NKp a b) (e:Ext b c):NKp a c:=⟨h.1.trans (NC.ext e),fun x T cs s z C=>(h.2 x T cs s z C).ext e⟩
theorem NKp.upd {a b c:World} {x T:Nat} (h:NKp a b) (D:Upd x b c) (s:Blk b x T cs) (H:T=119\/T=169):NKp a c:=⟨h.1.trans (NC.upd D s),fun y T' cs' F G C=>by
 have z:=h.2 y T' cs' F G C;exact z.upd D fun e=>by subst e;exact H.elim (fun e=>F ((z.inj s).1.trans e)) fun e=>G ((z.inj s).1.trans e)⟩
theorem NKp.near {a b c:World} {sz:Nat} {x:List Nat} (h:NKp a b) (e:NearR 119 sz x b c):NKp a c:=⟨h.1.trans e.nc,fun y T cs s z C=>e.blk y T cs (.inr (.inr s)) (h.2 y T cs s z C)⟩
theorem map_take {rows:List El} (h:i<es.length):(rows++es.take (i+1)).map elc=(rows++es.take i).map elc++[elc (es.getD i el0)]:=by
 rw [dG h,<- dU,eK,cC,cY h];rfl
theorem zIH {ac:Nat} {ve:Value} {rows:List El} (E0:Ext w w0) (L:w.heap.size<=bb) (D:Blk w0 bb 169 [.int .i64 (nd),ve,.slice none 0 0]) (H:Blk w0 ab 119 (es.map elc).flatten) (G:RowB 119 8 w.heap.size [ab] w0 ve (rows.map elc)) (hl:rows.length+es.length<=1000):CallK prog 108 #[.pointer (some ⟨bb,0,none⟩),.slice (some ⟨ab,0,none⟩) es.length ac] w0 (fun r w'=>r = .int .i64 (tops nd es)/\Ext w w'/\NKp w0 w'/\∃ ve',Blk w' bb 169 [.int .i64 (tops nd es),ve',.slice none 0 0]/\RowB 119 8 w.heap.size [ab] w' ve' ((rows++es).map elc)):=by
 have C:=NKp.refl w0;refine zDx 49 func108 rfl rfl (cw rfl) (rj (ag (rM 3 ?_)));refine zA (rJ (K1 (zG zEm rfl (mv (rM 897 ?_)))));refine zF (zX (X:=Nat) (fun i ρ w'=>∃ ve,Keep ρ [(0,.pointer (some ⟨bb,0,none⟩)),(7,.slice (some ⟨ab,0,none⟩) es.length ac),(8,.int .i64 (es.length:Nat)),(9,.int .i64 (i:Nat))]/\i<=es.length/\Ext w w'/\Blk w' bb 169 [.int .i64 (tops nd (es.take i)),ve,.slice none 0 0]/\Blk w' ab 119 (es.map elc).flatten/\RowB 119 8 w.heap.size [ab] w' ve ((rows++es.take i).map elc)/\NKp w0 w') (fun i=>es.length-i) 0 ⟨_,(kp rfl),di _,E0,D,H,by simpa using G,C⟩ ?_);rintro i ρ1 w1 ⟨ve,z,ae,E0,D,H,G,C⟩;refine wpe_k _ z ?_;have ne_bb_ab:bb≠ab:=fun e=>by subst e;exact absurd (D.inj H).1 dE
 refine rj (K8 rfl (rM 1921 ?_));refine zA ?_;refine K0 rfl ?_ ?_<;>intro hc
 . have J:i<es.length:=t_lt hc;obtain ⟨Z,N⟩:=els_at J;generalize hee:es.getD i el0=e at N;refine sk (zA (zF (rj (K1 (zDW zEm rfl rfl J (K1 (zMI rfl rfl H Z N ?_)))))));refine K1 (zR zero119 fun M w1 hb hE s hs => ?_);have hgb1:w.heap.size<=M:=by rw [hb];exact E0.size
   have F:bb≠M:=by have:=D.lt;omega
   have I:ab≠M:=by have:=H.lt;omega
   replace G:=G.new (y:=M) (dS hb.symm);obtain ⟨E0,D,H,G,C⟩:=V4 hE E0 D.ext H.ext G.ext C.ext;refine K1 (zc size119 rfl s rfl (cw rfl) dE rfl fun w2 hU hN => ?_);replace E0:=E0.upd hU hgb1;replace G:=G.updX hU sM;replace D:=D.upd hU F;replace H:=H.upd hU I;replace C:=C.upd hU s dE;clear s;have s:=hN;replace s:Blk _ M 119 (elc e):=s;refine rM 961 ?_;refine zA (zAR (some 0) 8 [[0],[0],[1],[1],[1],[1],[12],[1]] mixed kR fun K Y=>dM aL (dM aL (du (fun hE z=>zCG z.1 eR) (du (fun hE z=>zB zHX z.1 eR) (du (fun hE z=>zB zEL z.1 eR) (du (fun hE z=>zD zEG z.1 (D.ext hE) rfl eR) (du (fun hE z=>zh zMg z.1 (s.ext hE) (cw rfl) eR) (dC (fun v w'=>zCY 119 0 (elc e) v w') (fun hE z=>zCk z.1 fun v w2 hX h=>⟨hX,h.le (di _)⟩) (zAJ (Y _ fun wq hE => ?_))))))))));rintro _ rfl _ rfl _ rfl _ rfl _ rfl _ rfl _ rfl v20 N20;refine zY ?_;obtain ⟨E0,D,H,G,C,s⟩:=V5 hE E0 D.ext H.ext G.ext C.ext s.ext;refine K1 (zDI row79 rfl G N20 (zMu _) rfl (by rw [dJ,dN,eW];omega) E0.size (all2 s.lt H.lt) fun v21 w3 hN hR2 => ?_)
   replace E0:=hN.ext _ (cX _) E0;replace C:=C.near hN;replace D:=hN.blk _ _ _ (.inr (.inr dE)) D;replace H:=hN.blk _ _ _ (.inr (.inl sM)) H;replace s:=hN.blk _ _ _ (.inr (.inl sM)) s;clear G;have G:=hR2;obtain ⟨U,V,rfl⟩:=G.form;refine K1 (zCG rfl (K1 (zB zHX rfl (K1 (zB zEL rfl (K1 (zc zRe rfl D rfl (cw rfl) dE rfl fun w3 hU hN => ?_)))))));replace E0:=E0.upd hU L;replace H:=H.upd hU (eH ne_bb_ab);replace G:=G.upd hU D dE;replace C:=C.upd hU D dE;replace s:=s.upd hU (eH F);clear D;have D:=hN;refine zAh (zK (K5 [0,6,7,8,9] ?_))
   refine zAR none 15 [[0],[0],[1],[1],[1],[1],[12],[1],[12],[1],[12],[1],[12],[1],[17,13,9,5,1]] mixed kR fun K Y=>dM aL (dM aL (du (fun hE z=>zCG z.1 eR) (du (fun hE z=>zB zHX z.1 eR) (du (fun hE z=>zB zGO z.1 eR) (du (fun hE z=>zD zAT z.1 (D.ext hE) rfl eR) (du (fun hE z=>zB fo119_1 z.1 eR) (du (fun hE z=>zD zAT z.1 (s.ext hE) rfl eR) (du (fun hE z=>zB fo119_2 z.1 eR) (du (fun hE z=>zD zAT z.1 (s.ext hE) rfl eR) (du (fun hE z=>zB fo119_3 z.1 eR) (du (fun hE z=>zD zAT z.1 (s.ext hE) rfl eR) (du (fun hE z=>zB fo119_4 z.1 eR) (du (fun hE z=>zD zAT z.1 (s.ext hE) rfl eR) ?_)))))))))))));refine du (fun hE z=>runs_max5 z.1 z.2.1 z.2.2.1 z.2.2.2.1 z.2.2.2.2.1 eR) (zAJ (Y _ fun wq hE => ?_));rintro _ rfl _ rfl _ rfl _ rfl _ rfl _ rfl _ rfl _ rfl _ rfl _ rfl _ rfl _ rfl _ rfl _ rfl _ rfl;refine zY ?_;obtain ⟨E0,D,H,G,C,s⟩:=V5 hE E0 D.ext H.ext G.ext C.ext s.ext;refine K1 (zCG rfl (K1 (zB zHX rfl (K1 (zB zGO rfl (K1 (zc size3 rfl D rfl (cw rfl) dE rfl fun w4 hU hN => ?_)))))));replace E0:=E0.upd hU L;replace H:=H.upd hU (eH ne_bb_ab);replace G:=G.upd hU D dE;replace C:=C.upd hU D dE
   replace s:=s.upd hU (eH F);clear D;have D:=hN;replace D:Blk _ bb 169 [.int .i64 (topE (tops nd (es.take i)) e),.slice U _ V,.slice none 0 0]:=D;refine zAh (zN (zK (K5 [0,7,8,9] ?_)));refine K6 (K8 rfl (mv (rl (zL (⟨rfl,i+1,⟨.slice U ((rows++es.take i).map elc++[elc e]).length V,kw,oM,E0,?_,H,?_,C⟩,oM⟩)))))
   . rw [tops_take J,hee];exact D
   . rw [map_take J,hee];exact G.sub sM
 . have ah:=f_lt hc;obtain rfl:i=es.length:=by omega
   rw [ej] at D G;refine zT (zt (zf (zI (zK (rJ (K1 (zCG rfl (K1 (zB zHX rfl (K1 (zB zGO rfl (K1 (zD zAT rfl D rfl (ag (rM 913 ?_)))))))))))))));exact zE (zM ⟨rfl,_,zZ rfl rfl,rfl,E0,C,_,D,G⟩)
theorem put_ok {ac:Nat} {ve:Value} {rows:List El} (E0:Ext w w0) (e:w.heap.size<=bb) (h:Blk w0 bb 169 [.int .i64 (nd),ve,.slice none 0 0]) (s:Blk w0 ab 119 (es.map elc).flatten) (z:RowB 119 8 w.heap.size [ab] w0 ve (rows.map elc)) (C:rows.length+es.length<=1000):CallK prog 108 #[.pointer (some ⟨bb,0,none⟩),.slice (some ⟨ab,0,none⟩) es.length ac] w0 (fun r w'=>r = .int .i64 (tops nd es)/\Ext w w'/\∃ ve',Blk w' bb 169 [.int .i64 (tops nd es),ve',.slice none 0 0]/\RowB 119 8 w.heap.size [ab] w' ve' ((rows++es).map elc)) :=
 (zIH E0 e h s z C).mono fun _ _ ⟨D,F,_,G⟩=>⟨D,F,G⟩
end Go.Proofs.YtjiendlfobjanaaGreatDoor
namespace Go.Proofs.YtjiendlfobjanaaGreatDoor
open Go Go.RowKit Go.Proofs Tryz Go.Shelf Go.Sort
end Go.Proofs.YtjiendlfobjanaaGreatDoor
namespace Go.Proofs.YtjiendlfobjanaaGreatDoor
variable {B a b:Nat} {Q p:Poly}
theorem zOq {s:Bool} (h:b≠0) (z:a<B) (e:b<B):(qOf s a b).num.natAbs<B/\(qOf s a b).den<B:=by
 rw [zIo h,zLB h];exact ⟨eN (fg _ _) z,eN (fg _ _) e⟩
theorem zLt {l:List UInt8} (h:l.length<=40) (e:l.all isDig=true):natS l<10^40 :=
 fm (zIm _ l rfl e) (dw dE h)
theorem zKs {l:List UInt8} (h:l.length<=40):(zk l).1.num.natAbs<10^40/\(zk l).1.den<10^40:=by
 have s:((0:Rat)).num.natAbs<10^40/\((0:Rat)).den<10^40:=dE
 have I:=zGa l;obtain ⟨J,L⟩:=zHr 47 (zS l);rw [zBB];split
 . exact s
 . rename_i D;split
   . exact s
   . rename_i F;split
     . exact s
     . have z:zAb (cutAt 47 (zS l)).1=true:=by
        cases z:zAb (cutAt 47 (zS l)).1 with
        | true=>rfl
        | false=>rw [z] at D;simp at D
       have G:=zLt (oM:(cutAt 47 (zS l)).1.length<=40) (zBP z);split
       . exact zOq dE G dE
       . rename_i H;have C:(cutAt 47 (zS l)).2.2=true:=by
          cases C:(cutAt 47 (zS l)).2.2 with
          | true=>rfl
          | false=>rw [C] at H;simp at H
         have e:zAb (cutAt 47 (zS l)).2.1=true/\((cutAt 47 (zS l)).2.1==[48])=false:=by
          rw [C] at F;cases e:zAb (cutAt 47 (zS l)).2.1<;>cases hz:((cutAt 47 (zS l)).2.1==[48])<;>simp [e,hz] at F ⊢
         split
         . exact s
         . exact zOq (zFZ e.1 e.2).1 G (zLt oM (zBP e.1))
theorem zSB {B:Nat} (F:1<=B):∀ p:Poly,(∀ q,q∈p->q.num.natAbs<=B/\q.den<=B)->∃ D:Int,D≠0/\D.natAbs<=B^p.length/\∀ k,∃ z:Int,co p k*D=z/\z.natAbs<=B^p.length
 | [],_=>⟨1,dE,sM,fun k=>⟨0,by rw [zAa];simp,sM⟩⟩
 | x :: p,h=>by
  obtain ⟨D,d1,d2,d3⟩:=zSB F p fun q hq=>h q (List.mem_cons_of_mem _ hq);obtain ⟨G,C⟩:=h x (iv ..);have e:(x.den:Int)≠0:=by have:=x.den_nz;omega
  have s:x*(x.den:Rat)=(x.num:Rat):=by
   have J:(x.num:Rat)/(x.den:Rat)=x:=by rw [<- Rat.mkRat_eq_div];exact Rat.mkRat_self x
   have L:(x.den:Rat)≠0:=by exact_mod_cast x.den_nz
   grind
  refine ⟨x.den*D,iz e d1,?_,fun k => ?_⟩
  . rw [ey,et,dB,dm];exact fs d2 (by simpa using C)
  . cases k with
    | zero =>
     refine ⟨x.num*D,?_,?_⟩
     . rw [zAf,dH,dH,<- s,<- Rat.mul_assoc];rfl
     . rw [ey,et,dB,dm];exact fs d2 G
    | succ k =>
     obtain ⟨z,H,I⟩:=d3 k;refine ⟨x.den*z,?_,?_⟩
     . rw [zAF,dH,dH,<- H];grind
     . rw [ey,et,dB,dm];exact fs I (by simpa using C)
theorem ch_small (m:Nat) (s:p.length<=m) (h:∀ q,q∈p->q.num.natAbs<10^40/\q.den<10^40):CH (133*m+1) p:=by
 have G:10^40<=2^133:=dE
 obtain ⟨D,d1,d2,d3⟩:=zSB (B:=2^133) dE p fun q hq=>by
  obtain ⟨a,b⟩:=h q hq;omega
 have e:(2^133)^p.length<=2^(133*m):=by
  rw [<- gL];exact dw dE (dy _ s)
 refine ⟨D,d1,?_,fun k => ?_⟩
 . rw [dB,dm (2^(133*m))];exact dy 2 (dz d2 e)
 . obtain ⟨z,C,F⟩:=d3 k;exact ⟨z,C,by rw [dB,dm (2^(133*m))];exact dy 2 (dz F e)⟩
theorem CH.of_co {P:Poly} (h:CH a P) (e:∀ k,co Q k=co P k):CH a Q:=let ⟨D,h⟩:=h;⟨D,h.of_co e⟩
theorem CH.part {P:Poly} (h:CH a P) (e:∀ k,co Q k=co P k\/co Q k=0):CH a Q:=by
 obtain ⟨D,s,z,C⟩:=h;refine ⟨D,s,z,fun k => ?_⟩;rcases e k with e | e
 . rw [e];exact C k
 . exact ⟨0,by rw [e,dO];rfl,sM⟩
def Qt (a:Nat) (w:Rat):Prop:=∃ D z:Int,D≠0/\w*D=z/\D.natAbs<=2^a/\z.natAbs<=2^a
theorem qt_sz {w:Rat} (h:Qt a w):sz w<=2*(a+1):=by
 obtain ⟨D,z,e,s,C,F⟩:=h;exact sz_of e s (by rw [dB];omega) (by rw [dB];omega)
theorem zPv {w:Rat} (h:Qt a w) (e:a<=b):Qt b w:=by
 obtain ⟨D,z,s,C,F,G⟩:=h;have:=dw (dE:0<2) e;exact ⟨D,z,s,C,oM,oM⟩
theorem qt_inv {w:Rat} (I:w≠0) (h:Qt a w):Qt a (1/w):=by
 obtain ⟨D,z,C,s,F,G⟩:=h;have hD:=zCy C;have H:(z:Rat)≠0:=by rw [<- s];intro e;rcases Rat.mul_eq_zero.1 e with e | e<;>contradiction
 exact ⟨z,D,fun e=>H (by rw [e];rfl),by rw [<- s];grind,G,F⟩
theorem zNQ {l:List UInt8} (h:l.length<=40):Qt 133 (zk l).1:=by
 obtain ⟨e,s⟩:=zKs h;have h40:10^40<=2^133:=dE
 generalize (zk l).1=x at *;refine ⟨x.den,x.num,by have:=x.den_nz;omega,?_,by simp;omega,oM⟩;have e1:(x.num:Rat)/(x.den:Rat)=x:=by rw [<- Rat.mkRat_eq_div];exact Rat.mkRat_self x
 have z:(x.den:Rat)≠0:=by exact_mod_cast x.den_nz
 show x*((x.den:Nat):Rat)=_;grind
end Go.Proofs.YtjiendlfobjanaaGreatDoor
namespace Go.Proofs.YtjiendlfobjanaaGreatDoor
open Go Go.RowKit Go.Proofs Tryz
set_option maxRecDepth 10000
set_option maxHeartbeats 2000000
attribute [local irreducible] Runs WPE CallK Ret
variable {K:Value->World->Prop} {af:Array Edge} {cap i ix:Nat} {cv v:Value} {f:FuncId} {g:Option (Nat×Bool)} {l:List Rat} {p:Poly} {pos:String} {r:Option Nat} {ty:TypeId} {w w':World} {x:Rat} {σ:Operand->Value}
theorem rsign_le (x:Rat):rsign x<=0↔¬ 0<x:=by
 by_cases s:x=0
 . subst s;decide
 . rcases zCF s with ⟨z,h⟩ | ⟨z,h⟩
   . rw [h];exact ⟨fun e=>by omega,fun e=>absurd z e⟩
   . rw [h];exact ⟨fun _=>by grind,fun _=>by decide⟩
theorem above1_ok (e:IsNum w v x):Ret prog 190 #[v] w (fun r _=>r = .bool (decide (¬ 0<x))):=by
 have h:=e;obtain ⟨D,F,rfl,z,C⟩:=h;refine J0 6 func190 rfl (rj ?_);refine K1 (zn (Z1 E0 e.ext fun b1 w1 E0 e hgb1 s=>ag (rM 2 ?_)));refine zA ?_;have hNX:NumAt b1 x _:=⟨_,s,rfl,e⟩;refine K6 (K1 (zW rfl hNX fun v3 N3=>K1 (j0 E0 yB (Sign_ok N3) fun vi w2 E0 hr => ?_)));subst hr;refine K8 rfl (ag (rS 4 ?_));exact zE (en rfl E0 (cW Value.bool (fR.2 (by rw [rsign_le]))))
def PRA (w:World) (p:Option Addr) (l:List Rat):Prop:=∀ i,i<l.length->∃ b o T cs,p=some ⟨b,o,none⟩/\Blk w b T cs/\o+3*i+3<=cs.length/\IsNum w (.agg ((cs.drop (o+3*i)).take 3).toArray) (l.getD i 0)
theorem PRA.ext {p:Option Addr} (h:PRA w p l) (e:Ext w w'):PRA w' p l:=fun i s=>by
 obtain ⟨b,o,T,cs,z,C,D,F⟩:=h i s;exact ⟨b,o,T,cs,z,C.ext e,D,F.ext e⟩
def zMY (w:World) (v:Value) (l:List Rat):Prop:=∃ p cap,v = .slice p l.length cap/\l.length<=cap/\PRA w p l/\l.length<=4096
theorem IsPoly.toA (h:IsPoly w v l):zMY w v l:=by
 obtain ⟨p,c,e,s,z,C⟩:=h;exact ⟨p,c,e,s,fun i hi=>(let ⟨b,o,cs,D,F,G,H⟩:=z.at hi;⟨b,o,37,cs,D,F,G,H⟩),C⟩
section laws
variable {d:Option Tmp}
theorem runs_ploadA {x:Operand} {p:Option Addr} (h:PRA w p l) (s:i<l.length) (e:σ x = .pointer (p.map fun a=>a.add (3*i))) (z:∀ v,IsNum w v (l.getD i 0)->K v w):Runs prog r ⟨d,.load 37 x,ty,pos,af,g⟩ σ w K:=by
 obtain ⟨b,o,T,cs,C,D,F,G⟩:=h i s;rw [C] at e;exact zBQ (o:=o+3*i) (by rw [e];simp [zAm]) D F G z
theorem runs_pindexA {x i:Operand} {p:Option Addr} {k:IntKind} (e:PRA w p l) (h:σ x = .slice p l.length cap) (s:σ i = .int k (ix:Int)) (z:ix<l.length) (C:K (.pointer (p.map fun a=>a.add (3*ix))) w):Runs prog r ⟨d,.indexAddr 25 x i,ty,pos,af,g⟩ σ w K:=by
 obtain ⟨b,o,T,cs,D,F,G,H⟩:=e ix z;subst D;refine zH zAC h s oM oM ?_;rw [show o+((ix:Nat):Int).toNat*3=o+3*ix from by omega];simpa [zAm] using C
end laws
theorem drop_consP0 {l:Poly} (h:i<l.length):l.drop i=l.getD i 0 :: l.drop (i+1):=by
 rw [dZ h];simp [h]
theorem IndexN_ok {c:Poly} {pr:Rat->Bool} (h:zMY w cv c) (D:zBA prog f) (C:∀ i,i<c.length->∀ (w':World) (v:Value),Ext w w'->IsNum w' v (c.getD i 0)->Ret prog f #[v] w' (fun u _=>u = .bool (pr (c.getD i 0)))):Ret prog 265 #[cv,.func (.func f) #[] #[]] w (fun u _=>u = .int .i64 (idxL pr c 0)):=by
 obtain ⟨F,G,rfl,J,H,L⟩:=h;refine J0 19 func265 rfl (rj (ag (rM 3 ?_)));refine zA (rJ (K1 (zG zAC rfl (mv (rM 387 ?_)))));refine zF (zX (X:=Nat) (fun i ρ w'=>Keep ρ [(0,.slice F c.length G),(1,.func (.func f) #[] #[]),(7,.int .i64 (c.length:Nat)),(8,.int .i64 (i:Nat))]/\i<=c.length/\Ext w w'/\idxL pr (c.drop i) i=idxL pr c 0) (fun i=>c.length-i) 0 ⟨(kp rfl),di _,E0,rfl⟩ ?_);rintro i ρ1 w1 ⟨I,M,E0,s⟩;refine wpe_k _ I ?_;refine rj (K8 rfl (rM 899 ?_));refine zA ?_;refine K0 rfl ?_ ?_<;>intro h
 . have z:i<c.length:=t_lt h;have hC1:=H.ext E0;rw [drop_consP0 oM,idxL] at s;refine sk (zA (zF (rJ (ag (rM 419 ?_)))));refine rJ (mv (mv (K1 (runs_pindexA (l:=c) hC1 rfl rfl z (K1 (runs_ploadA hC1 z rfl fun v15 N15=>K1 (zCi rfl D (CallK.of_ret (C i z _ v15 E0 N15) fun v19 w2 hE hr => ?_))))))));subst hr;replace E0:=E0.trans hE;refine rM 65955 ?_;refine K0 rfl ?_ ?_<;>intro h
   . have e:pr (c.getD i 0)=true:=h;rw [cD e] at s;refine rJ (ag (rM 403 ?_));refine zE (zd (zU (zAP (zd (zU (zM ?_))))));exact ⟨rfl,_,zZ rfl rfl,E0,by rw [<- s];rfl⟩
   . have e:pr (c.getD i 0)=false:=h;rw [ct (by rw [e];decide)] at s;exact zw (zN (zK (K6 (K8 rfl (mv (rl (zL (⟨rfl,i+1,⟨kw,oM,E0,s⟩,oM⟩))))))))
 . have N:=f_lt h;obtain rfl:i=c.length:=by omega
   rw [fp oM,idxL] at s;refine zT (zt (zf (zI (zK (rj (ag (rM 403 ?_)))))));refine zE (zM ?_);exact ⟨rfl,_,zZ rfl rfl,E0,by rw [<- s];rfl⟩
theorem ContainsN_ok {c:Poly} {pr:Rat->Bool} (s:zMY w cv c) (z:zBA prog f) (e:∀ i,i<c.length->∀ (w':World) (v:Value),Ext w w'->IsNum w' v (c.getD i 0)->Ret prog f #[v] w' (fun u _=>u = .bool (pr (c.getD i 0)))):Ret prog 189 #[cv,.func (.func f) #[] #[]] w (fun u _=>u = .bool (c.any pr)):=by
 refine J0 9 func189 rfl (rj (ag (rM 3 ?_)));refine rJ (mv (K1 (j0 E0 yB (IndexN_ok s z e) fun G H E0 C => ?_)));subst C;refine K8 rfl (ag (rm [4] ?_));refine zE (zM ?_);exact ⟨rfl,_,zZ rfl rfl,E0,cW Value.bool (by
  rcases @zGn _ pr c 0 with ⟨D,h⟩ | ⟨D,h,F⟩
  . rw [h];exact cU oM
  . rw [F];exact cZ oM)⟩
theorem above_okA (e:zMY w v p):Ret prog 99 #[v] w (fun u _=>u = .bool (!(p.any fun x=>decide (¬ 0<x)))):=by
 refine J0 6 func99 rfl (rj (ag (rM 1 ?_)));refine rJ (K1 (j0 E0 yB (ContainsN_ok (pr:=fun x=>decide (¬ 0<x)) e yB fun i hi w2 v hE hv=>above1_ok hv) fun vi w2 E0 hr => ?_));subst hr;refine K1 (zp rfl (ag (rM 4 ?_)));exact zE (en rfl E0 rfl)
theorem zFj (e:IsPoly w v p):Ret prog 99 #[v] w (fun u _=>u = .bool (!(p.any fun x=>decide (¬ 0<x)))):=above_okA e.toA
variable {bb c:Nat} {es:List El} {nd:Int}
def badE (e:El):Bool:=decide ((zk e.v).2≠0)
def NetIs (w:World) (v:Value) (n:Int) (es:List El):Prop:=∃ p c,v = .agg #[.int .i64 n,.slice p es.length c,.slice none 0 0]/\RowR 119 8 w p (es.map elc)
theorem NetIs.ext {n:Int} (h:NetIs w v n es) (e:Ext w w'):NetIs w' v n es:=by
 obtain ⟨p,c,s,z⟩:=h;exact ⟨p,c,s,z.ext e⟩
def doneS (n:Int) (es:List El):Int×List El×Int:=if es.any badE then (0,[],3) else (n,es,0)
theorem zCM:NetIs w (.agg #[.int .i64 0,.slice none 0 0,.slice none 0 0]) 0 []:=⟨none,0,rfl,.inl rfl⟩
theorem drop_consE {l:List El} (h:i<l.length):l.drop i=l.getD i el0 :: l.drop (i+1):=by
 rw [dZ h];simp [h]
theorem row_e {p:Option Addr} (h:RowR 119 8 w p (es.map elc)) (e:i<es.length):∃ b cs,p=some ⟨b,0,none⟩/\Blk w b 119 cs/\8*i+8<=cs.length/\(cs.drop (8*i)).take 8=elc (es.getD i el0):=by
 obtain ⟨b,cs,s,z,C,D⟩:=h.at (by simpa using e);exact ⟨b,cs,s,z,C,by rw [D,zSU e el0]⟩
theorem Check_ok {l:List UInt8} (h:l.length<1000000000):Ret prog 197 #[S l] w (fun r _=>r = .int .i64 (zk l).2):=by
 refine J0 11 func197 rfl (rj (ag (rM 1 ?_)));refine rJ (K1 (j0 E0 yB (Parse_ok h) fun z C E0 s => ?_));obtain ⟨D,rfl,e⟩:=s;refine mv (xt rfl (xt rfl ?_));refine K1 (zR zAt (Z1 E0 e.ext fun bc w3 E0 e hgc hBc=>K1 (zO rfl e (Cell3.of hBc rfl) fun _ w4 hU hNA => ?_)));replace E0:=E0.upd hU hgc;refine ag (rm [4] ?_);refine rJ (ag (rM 4 ?_));exact zE (en rfl E0 rfl)
theorem bad_ok {e:El} (C:e.v.length<1000000000):Ret prog 196 #[.agg (elc e).toArray] w (fun r _=>r = .bool (badE e)):=by
 refine J0 7 func196 rfl (rj ?_);refine K1 (zn (Z0 E0 fun D F E0 z s=>ag (rM 2 ?_)));refine rj (K1 (zB zSg rfl (K1 (zD zCz rfl s rfl (K1 (j1 E0 s.ext yB (Check_ok (l:=e.v) C) fun vi w2 E0 s hr => ?_))))));subst hr;refine K8 rfl (ag (rM 4 ?_));refine zE (zM ?_);exact ⟨rfl,_,zZ rfl rfl,E0,cW Value.bool (by unfold badE;by_cases h:(zk e.v).2=0<;>simp [h,bne])⟩
theorem IndexE_ok {p:Option Addr} {pr:El->Bool} (G:RowR 119 8 w p (es.map elc)) (U:es.length<100000) (H:zBA prog f) (z:∀ i,i<es.length->∀ (w':World),Ext w w'->Ret prog f #[.agg (elc (es.getD i el0)).toArray] w' (fun u _=>u = .bool (pr (es.getD i el0)))):Ret prog 272 #[.slice p es.length c,.func (.func f) #[] #[]] w (fun u _=>u = .int .i64 (idxL pr es 0)):=by
 refine J0 19 func272 rfl (rj (ag (rM 3 ?_)));refine zA (rJ (K1 (zG zEm rfl (mv (rM 387 ?_)))));refine zF (zX (X:=Nat) (fun i I w'=>Keep I [(0,.slice p es.length c),(1,.func (.func f) #[] #[]),(7,.int .i64 (es.length:Nat)),(8,.int .i64 (i:Nat))]/\i<=es.length/\Ext w w'/\idxL pr (es.drop i) i=idxL pr es 0) (fun i=>es.length-i) 0 ⟨(kp rfl),di _,E0,rfl⟩ ?_);rintro i ρ1 w1 ⟨J,L,E0,h⟩;refine wpe_k _ J ?_;refine rj (K8 rfl (rM 899 ?_));refine zA ?_;refine K0 rfl ?_ ?_<;>intro hc
 . have s:i<es.length:=t_lt hc;obtain ⟨V,M,rfl,C,D,F⟩:=row_e (G.ext E0) s;rw [drop_consE oM,idxL] at h;refine sk (zA (zF (rJ (ag (rM 419 ?_)))));refine rJ (mv (mv (K1 (zDW zEm rfl rfl s (K1 (zMI rfl rfl C D F (K1 (zCi rfl H (CallK.of_ret (z i s _ E0) fun v19 w2 hE hr => ?_)))))))));subst hr;replace E0:=E0.trans hE;refine rM 65955 ?_;refine K0 rfl ?_ ?_<;>intro hc
   . have e:pr (es.getD i el0)=true:=hc;rw [cD e] at h;refine rJ (ag (rM 403 ?_));refine zE (zd (zU (zAP (zd (zU (zM ?_))))));exact ⟨rfl,_,zZ rfl rfl,E0,by rw [<- h];rfl⟩
   . have e:pr (es.getD i el0)=false:=hc;rw [ct (by rw [e];decide)] at h;exact zw (zN (zK (K6 (K8 rfl (mv (rl (zL (⟨rfl,i+1,⟨kw,oM,E0,h⟩,oM⟩))))))))
 . have N:=f_lt hc;obtain rfl:i=es.length:=by omega
   rw [fp oM,idxL] at h;refine zT (zt (zf (zI (zK (rj (ag (rM 403 ?_)))))));refine zE (zM ?_);exact ⟨rfl,_,zZ rfl rfl,E0,by rw [<- h];rfl⟩
theorem ContainsE_ok {p:Option Addr} {pr:El->Bool} (s:RowR 119 8 w p (es.map elc)) (z:es.length<100000) (C:zBA prog f) (e:∀ i,i<es.length->∀ (w':World),Ext w w'->Ret prog f #[.agg (elc (es.getD i el0)).toArray] w' (fun u _=>u = .bool (pr (es.getD i el0)))):Ret prog 195 #[.slice p es.length c,.func (.func f) #[] #[]] w (fun u _=>u = .bool (es.any pr)):=by
 refine J0 9 func195 rfl (rj (ag (rM 3 ?_)));refine rJ (mv (K1 (j0 E0 yB (IndexE_ok s z C e) fun H I E0 D => ?_)));subst D;refine K8 rfl (ag (rm [4] ?_));refine zE (zM ?_);exact ⟨rfl,_,zZ rfl rfl,E0,cW Value.bool (by
  rcases @zGn _ pr es 0 with ⟨F,h⟩ | ⟨F,h,G⟩
  . rw [h];exact cU oM
  . rw [G];exact cZ oM)⟩
theorem done_ok {p:Option Addr} (s:Blk w bb 169 [.int .i64 nd,.slice p es.length c,.slice none 0 0]) (D:RowR 119 8 w p (es.map elc)) (F:es.length<100000) (G:∀ i,i<es.length->(es.getD i el0).v.length<1000000000):Ret prog 109 #[.pointer (some ⟨bb,0,none⟩)] w (fun r w'=>∃ v,r = .tuple #[v,.int .i64 (doneS nd es).2.2]/\NetIs w' v (doneS nd es).1 (doneS nd es).2.1):=by
 refine J0 15 func109 rfl (rj ?_);refine K1 (zR zLS (Z1a E0 s.ext s.lt fun H I E0 s C h e=>ag (rM 5 ?_)));refine zA (rJ (K1 (zCG rfl (K1 (zB zHX rfl (K1 (zB zEL rfl (K1 (zD zEG rfl s rfl (K1 (j2 E0 s.ext e.ext yB (ContainsE_ok (pr:=badE) (D.ext E0) F yB fun i hi w2 hE=>bad_ok (G i hi)) fun vi w2 E0 s e hr => ?_)))))))))));subst hr;refine rM 517 ?_;refine K0 rfl ?_ ?_<;>intro hc
 . have z:es.any badE=true:=hc;refine rj (K1 (zV (cs := #[.int .i64 0,.slice none 0 0,.slice none 0 0]) kR (K1 (zc zDa rfl e rfl (cw rfl) dE rfl fun w2 hU hN => ?_))));replace E0:=E0.upd hU C;replace s:=s.upd hU h;clear e;have e:=hN;refine ag (rM 12 ?_);refine zE (zU (zM ?_));rw [show doneS nd es=(0,[],3) from cD z];exact ⟨rfl,_,za rfl rfl rfl rfl zCs e rfl,E0,_,rfl,zCM⟩
 . have z:es.any badE=false:=hc;refine sk (rJ (K1 (zCG rfl (K1 (zB zHX rfl (K1 (zh zCs rfl s (cw rfl) (K1 (zc zDa rfl e rfl (cw rfl) dE rfl fun w2 hU hN => ?_)))))))));replace E0:=E0.upd hU C;replace s:=s.upd hU h;clear e;have e:=hN;refine ag (rM 12 ?_);refine zE (zM ?_);rw [show doneS nd es=(nd,es,0) from ct (by rw [z];decide)];exact ⟨rfl,_,za rfl rfl rfl rfl zCs e rfl,E0,_,rfl,p,c,rfl,D.ext E0⟩

theorem info52':(prog.info? 52).map (fun i=>(i.zero,i.size))=some (some (S []),1):=kR
theorem Ext.self (_:Ext w w'):Ext w' w':=Ext.refl w'
theorem Ext.szE (_:Ext w w'):∃ s,s=w'.heap.size:=⟨_,rfl⟩
end Go.Proofs.YtjiendlfobjanaaGreatDoor
namespace Go.Proofs.YtjiendlfobjanaaGreatDoor
open Go Go.RowKit Go.Proofs Tryz
attribute [local irreducible] Runs WPE CallK Ret
variable {K:Value->World->Prop} {P:Program} {af:Array Edge} {g:Option (Nat×Bool)} {pos:String} {r:Option Nat} {ty:TypeId} {w:World} {σ:Operand->Value}
section laws
variable {d:Option Tmp}
end laws
end Go.Proofs.YtjiendlfobjanaaGreatDoor
namespace Go.Proofs.YtjiendlfobjanaaGreatDoor
open Go Go.RowKit Go.Proofs Tryz
set_option maxRecDepth 10000
set_option maxHeartbeats 2000000
attribute [local irreducible] Runs WPE CallK Ret
variable {K:Value->World->Prop} {af:Array Edge} {g:Option (Nat×Bool)} {pos:String} {r:Option Nat} {ty:TypeId} {w:World} {σ:Operand->Value}
section laws
variable {d:Option Tmp}
end laws
variable {E a b c n o:Nat} {P:Program} {T:TypeId} {cs row:List Value} {rows:List (List Value)} {w':World} {x y:Rat}
def el1:El:=⟨4,1,0,0,0,[49]⟩
theorem zTS {n m:Int} {e:El} (s:n<=m) (z:e.a<=m) (C:e.b<=m) (D:e.c<=m) (F:e.d<=m) (h:m=n\/m=e.a\/m=e.b\/m=e.c\/m=e.d):topE n e=m:=by
 unfold topE mx
 repeat' split
 all_goals omega
theorem zOs (h:Qt a x) (k:Qt b y):Qt (a+b) (x*y):=by
 obtain ⟨D,z,e,s,C,F⟩:=h;obtain ⟨E,u,G,H,I,J⟩:=k;refine ⟨D*E,z*u,iz e G,?_,?_,?_⟩
 . rw [dH,dH,<- s,<- H];grind
 . rw [ey,eM];exact fs C I
 . rw [ey,eM];exact fs F J
theorem zOr (e:y≠0) (h:Qt a x) (k:Qt b y):Qt (a+b) (x/y):=by
 have:=zOs h (qt_inv e k);rwa [show x*(1/y)=x/y by grind] at this
theorem zCS (h:Qt a x) (e:a<400000000):Fine x.num.natAbs/\Fine x.den:=by
 have:=qt_sz h;unfold sz at this;unfold Fine;omega
theorem zNR (h:Qt a x) (k:Qt b y) (e:a+b<400000000):rroom x y=true:=by
 have:=qt_sz h;have:=qt_sz k;exact cZ oM
theorem zHC (h:Fine x.num.natAbs) (s:Fine x.den) (e:sz x<400000000):(textS x).length<1000000000:=by
 have a:=zHU x.num.natAbs;have b:=zHU x.den;unfold sz at e;unfold textS;rw [dN,dN];have c:(if x<0 then ([45]:List UInt8) else []).length<=1:=by split<;>simp
 have d:(if x.den=1 then ([]:List UInt8) else 47 :: Lib.decDigits x.den).length<=(Lib.decDigits x.den).length+1:=by split<;>simp
 omega
section laws
variable {d:Option Tmp}
theorem zMH {o x y v:Operand} {k A B:Int} {t:List UInt8} (e:σ o = .int .i64 k) (h:σ x = .int .i64 A) (s:σ y = .int .i64 B) (z:σ v=S t) (C:K (.agg (elc ⟨k,A,B,0,0,t⟩).toArray) w):Runs prog r ⟨d,.build 119 #[(0,o),(1,x),(2,y),(7,v)],ty,pos,af,g⟩ σ w K:=by
 refine zV (cs:=(elc ⟨k,A,B,0,0,t⟩).toArray) ?_ C;show Program.built _ _ [(0,σ o),(1,σ x),(2,σ y),(7,σ v)]=_;rw [e,h,s,z]
 kernel_rfl
theorem zIM {o x v:Operand} {k A:Int} {t:List UInt8} (e:σ o = .int .i64 k) (h:σ x = .int .i64 A) (s:σ v=S t) (z:K (.agg (elc ⟨k,A,0,0,0,t⟩).toArray) w):Runs prog r ⟨d,.build 119 #[(0,o),(1,x),(7,v)],ty,pos,af,g⟩ σ w K:=by
 refine zV (cs:=(elc ⟨k,A,0,0,0,t⟩).toArray) ?_ z;show Program.built _ _ [(0,σ o),(1,σ x),(7,σ v)]=_;rw [e,h,s]
 kernel_rfl
theorem zJU {T T':Nat} {x:Operand} (e:Aggr P T n) (h:σ x = .pointer (some ⟨b,o,none⟩)) (s:Blk w b T' cs) (z:o+n<=cs.length) (he:(cs.drop o).take n=row) (C:K (.agg row.toArray) w):Runs P r ⟨d,.load T x,ty,pos,af,g⟩ σ w K :=
 zh e h s z (by rw [he];exact C)
end laws
theorem source_ok:Ret prog 107 #[] w (fun r w'=>∃ bb ve,r = .pointer (some ⟨bb,0,none⟩)/\w.heap.size<=bb/\Blk w' bb 169 [.int .i64 1,ve,.slice none 0 0]/\RowB 119 8 w.heap.size [] w' ve ([el1].map elc)):=by
 refine J0 9 func107 rfl (rj (ag (rm [] ?_)));refine rj (K1 (zV (cs := #[.int .i64 0,.slice none 0 0,.slice none 0 0]) kR ?_));refine K1 (zn (Z0 E0 fun z J E0 h s=>ag (rM 2 ?_)));refine rJ (K1 (zV (cs:=(elc el1).toArray) kR (K1 (zCk (e:=el1) rfl fun v6 w3 hE hO => ?_))));obtain ⟨ab,rfl,I,C⟩:=hO;obtain ⟨E0,s⟩:=V1 hE E0 s.ext;refine K1 (zJ yB (CallK.mono (put_ok (w:=w) (nd:=0) (ve := .slice none 0 0) (es:=[el1]) (rows:=[]) E0 h s (show Blk _ ab 119 ([el1].map elc).flatten from C) RowB.nil sM) fun vr w5 ⟨D,F,ve,G,H⟩ => ?_) rfl);subst D;refine rM 2 ?_;refine rJ (ag (rM 1 ?_));exact zE (en rfl F ⟨z,ve,rfl,h,G,H.sub sM⟩)
theorem Ext.self' (_:Ext w w'):Ext w' w':=Ext.refl w'
theorem RowR.upd {p:Option Addr} (h:RowR E n w p rows) (z:Upd c w w') (C:Blk w c T cs) (D:T≠E):RowR E n w' p rows:=by
 rcases h with h | ⟨b,cs',F,s,G,H⟩
 . exact .inl h
 . exact .inr ⟨b,cs',F,s.upd z (fun e=>by subst e;exact D (C.inj s).1),G,H⟩
end Go.Proofs.YtjiendlfobjanaaGreatDoor
namespace Go.Proofs.YtjiendlfobjanaaGreatDoor.R
open Go Go.RowKit Go.Proofs Tryz
variable {A l:List Rat} {K:Value->World->Prop} {T ty:TypeId} {af:Array Edge} {b c cap i ix k o:Nat} {cs:List Value} {g:Option (Nat×Bool)} {pos:String} {r:Option Nat} {u v:Value} {w w':World} {σ:Operand->Value}
def PRd (w:World) (p:Option Addr) (l:List Rat):Prop :=
 l=[]\/∃ b o cs,p=some ⟨b,o,none⟩/\Blk w b 50 cs/\o+3*l.length<=cs.length/\∀ i,i<l.length->IsR w (.agg ((cs.drop (o+3*i)).take 3).toArray) (l.getD i 0)
def IsPoly (w:World) (v:Value) (l:List Rat):Prop:=∃ p cap,v = .slice p l.length cap/\l.length<=cap/\PRd w p l/\l.length<=4096
theorem PRd.ext {p:Option Addr} (h:PRd w p l) (e:Ext w w'):PRd w' p l:=by
 rcases h with h | ⟨b,o,cs,s,z,C,D⟩
 . exact .inl h
 . exact .inr ⟨b,o,cs,s,z.ext e,C,fun i F=>(D i F).ext e⟩
theorem IsPoly.ext (h:IsPoly w v l) (e:Ext w w'):IsPoly w' v l:=by
 obtain ⟨p,c,s,z,C,D⟩:=h;exact ⟨p,c,s,z,C.ext e,D⟩
theorem IsPoly.of_eq (h:v=u) (e:IsPoly w u l):IsPoly w v l:=h ▸ e
theorem PRd.at {p:Option Addr} (h:PRd w p l) (e:i<l.length):∃ b o cs,p=some ⟨b,o,none⟩/\Blk w b 50 cs/\o+3*i+3<=cs.length/\IsR w (.agg ((cs.drop (o+3*i)).take 3).toArray) (l.getD i 0):=by
 rcases h with h | ⟨c,o,cs',s,z,D,C⟩
 . subst h;simp at e
 . exact ⟨c,o,cs',s,z,oM,C i e⟩
theorem PRd.take {p:Option Addr} (h:PRd w p l) (n:Nat):PRd w p (l.take n):=by
 rcases h with h | ⟨b,o,cs,e,s,D,z⟩
 . exact .inl (by rw [h];simp)
 . refine .inr ⟨b,o,cs,e,s,by simp;omega,fun i C => ?_⟩;have hi':i<n/\i<l.length:=by simp at C;omega
   have:=z i hi'.2;rwa [show (l.take n).getD i 0=l.getD i 0 from by simp [hi'.1]]
theorem PRd.cells {p:Option Addr} (h:PRd w p l):∃ cs,Cells w p 50 cs/\cs.length=l.length*3/\∀ i,i<l.length->IsR w (.agg ((cs.drop (3*i)).take 3).toArray) (l.getD i 0):=by
 rcases h with h | ⟨b,o,cs,s,z,D,C⟩
 . subst h;exact ⟨[],.inl rfl,rfl,fun i e=>by simp at e⟩
 . refine ⟨(cs.drop o).take (l.length*3),.inr ⟨b,o,cs,s,z,sM⟩,by simp;omega,fun i e => ?_⟩;have:=C i e;rwa [show (((cs.drop o).take (l.length*3)).drop (3*i)).take 3=(cs.drop (o+3*i)).take 3 from by
    rw [gy,gM,List.drop_drop,dT oM]]
def PBlk (w:World) (b:Nat) (l:List Rat):Prop:=∃ cs,Blk w b 50 cs/\3*l.length<=cs.length/\∀ i,i<l.length->IsR w (.agg ((cs.drop (3*i)).take 3).toArray) (l.getD i 0)
theorem PBlk.ext (h:PBlk w b l) (e:Ext w w'):PBlk w' b l:=by
 obtain ⟨cs,s,z,C⟩:=h;exact ⟨cs,s.ext e,z,fun i D=>(C i D).ext e⟩
theorem PBlk.lt (h:PBlk w b l):b<w.heap.size:=by obtain ⟨cs,e,_⟩:=h;exact e.lt
theorem PBlk.rd (h:PBlk w b l):PRd w (some ⟨b,0,none⟩) l:=by
 obtain ⟨cs,e,C,s⟩:=h;exact .inr ⟨b,0,cs,rfl,e,oM,fun i z=>by rw [dW];exact s i z⟩
theorem PBlk.upd (h:PBlk w b l) (s:Upd c w w') (z:Blk w c 50 cs) (e:b≠c):PBlk w' b l:=by
 obtain ⟨cs',C,D,F⟩:=h;exact ⟨cs',C.upd s e,D,fun i G=>(F i G).upd s z dE⟩
section laws
variable {d:Option Tmp}
theorem zBE {x y:Operand} {q:Rat} (D:σ x = .pointer (some ⟨b,o,none⟩)) (F:o=3*k) (z:IsR w (σ y) q) (h:PBlk w b l) (U:k<l.length)
 (G:∀ v w',Upd b w w'->PBlk w' b (l.set k q)->K v w'):Runs prog r ⟨d,.store 50 x y,ty,pos,af,g⟩ σ w K:=by
 subst F;obtain ⟨cs,h,H,I⟩:=h;have hy0:=z;obtain ⟨n,V,he,J,L⟩:=z;obtain ⟨X,M,Y,rfl,-⟩:=J;obtain ⟨Z,N,c2,rfl,-⟩:=L;refine zc zGB D h (by rw [he];rfl) oM dE (by rw [he];rfl) fun w' hU C=>G _ w' hU ?_;rw [he] at C hy0;refine ⟨_,C,by rw [zAu,ff];exact H,fun i s => ?_⟩;rw [ff] at s;show IsR w' (.agg (((zBr cs (3*k) [_,_,_]).drop (3*i)).take 3).toArray) _;rw [zBb oM];by_cases e:i=k
 . subst e;rw [cD rfl,show (l.set i q).getD i 0=q from by simp [s]];exact hy0.upd hU h dE
 . rw [ct e,show (l.set k q).getD i 0=l.getD i 0 from by simp [fz (eH e)]];exact (I i s).upd hU h dE
theorem zMJ {x:Operand} {q:Rat} (e:σ x = .pointer (some ⟨b,o,none⟩)) (h:Blk w b T cs) (s:o+3<=cs.length) (z:IsR w (.agg ((cs.drop o).take 3).toArray) q) (C:∀ v,IsR w v q->K v w) :
 Runs prog r ⟨d,.load 50 x,ty,pos,af,g⟩ σ w K:=zh zAS e h s (C _ z)
theorem runs_pload {x:Operand} {p:Option Addr} (h:PRd w p l) (s:i<l.length) (e:σ x = .pointer (p.map fun a=>a.add (3*i))) (z:∀ v,IsR w v (l.getD i 0)->K v w):Runs prog r ⟨d,.load 50 x,ty,pos,af,g⟩ σ w K:=by
 obtain ⟨b,o,cs,C,D,F,G⟩:=h.at s;rw [C] at e;exact zMJ (o:=o+3*i) (by rw [e];simp [zAm]) D F G z
theorem runs_pindex {x i:Operand} {p:Option Addr} {k:IntKind} (e:PRd w p l) (h:σ x = .slice p l.length cap) (s:σ i = .int k (ix:Int)) (z:ix<l.length) (C:K (.pointer (p.map fun a=>a.add (3*ix))) w):Runs prog r ⟨d,.indexAddr 26 x i,ty,pos,af,g⟩ σ w K:=by
 obtain ⟨b,o,cs,D,F,G,H⟩:=e.at z;subst D;refine zH slice26 h s oM oM ?_;rw [show o+((ix:Nat):Int).toNat*3=o+3*ix from by omega];simpa [zAm] using C
end laws
theorem AccP.poly {sz:Nat} (h:AccP sz w v A) (s:A.length<=4096):IsPoly w v A:=by
 obtain ⟨p,c,z,C,D⟩:=h;refine ⟨p,c,z,C,?_,s⟩;rcases D with ⟨e,_⟩ | ⟨b,cs,F,_,G,J,H⟩
 . exact .inl e
 . exact .inr ⟨b,0,cs,F,G,oM,fun i I=>by rw [dW];exact H i I⟩
end Go.Proofs.YtjiendlfobjanaaGreatDoor.R
namespace Go.Proofs.YtjiendlfobjanaaGreatDoor.R
open Go Go.RowKit Go.Proofs Tryz
set_option maxRecDepth 10000
set_option maxHeartbeats 2000000
attribute [local irreducible] Runs WPE CallK Ret
variable {A l:List Rat} {K:Value->World->Prop} {af:Array Edge} {b cap i sz' sz2:Nat} {g:Option (Nat×Bool)} {p:Poly} {pos:String} {r:Option Nat} {ty:TypeId} {u v:Value} {w w':World} {x:Rat} {σ:Operand->Value}
structure Near5 (sz:Nat) (w w':World):Prop where
 ext:∀ W:World,W.heap.size<=sz->Ext W w->Ext W w'
 num:∀ v q,IsR w v q->IsR w' v q
 at_:∀ b q,b<sz->RAt b q w->RAt b q w'
 size:w.heap.size<=w'.heap.size
def zCT (sz:Nat) (w:World) (v:Value) (l:List Rat):Prop:=(l=[]/\∃ a,v = .slice a 0 0)\/∃ b c,v = .slice (some ⟨b,0,none⟩) l.length c/\l.length<=c/\sz<=b/\PBlk w b l
theorem zCT.poly {sz:Nat} (h:zCT sz w v l) (e:l.length<=4096):IsPoly w v l:=by
 rcases h with ⟨rfl,a,rfl⟩ | ⟨b,c,rfl,s,-,z⟩
 . exact ⟨a,0,rfl,cX _,.inl rfl,dE⟩
 . exact ⟨_,c,rfl,s,z.rd,e⟩
theorem zCT.le {sz:Nat} (h:zCT sz w v l) (C:sz'<=sz):zCT sz' w v l:=by
 rcases h with h | ⟨b,c,e,s,D,z⟩
 . exact .inl h
 . exact .inr ⟨b,c,e,s,oM,z⟩
theorem zCT.ext {sz:Nat} (h:zCT sz w v l) (e:Ext w w'):zCT sz w' v l:=by
 rcases h with h | ⟨b,c,s,z,C,D⟩
 . exact .inl h
 . exact .inr ⟨b,c,s,z,C,D.ext e⟩
section laws
variable {d:Option Tmp}
theorem zEu {x y:Operand} {sz:Nat} {q:Rat} (z:σ x=v) (I:AccP sz w v A) (L:OneR sz2 q (σ y) w) (U:A.length<4096) (V:sz<=w.heap.size)
 (M:∀ G w',Near5 sz w w'->AccP sz w' G (A++[q])->K G w'):Runs prog r ⟨d,.call { callee := .builtin .append,args := #[x,y],argTypes := #[26,26] },ty,pos,af,g⟩ σ w K:=by
 rcases I.cases with ⟨b,c,e,D,X,N⟩ | ⟨p,c,e,D⟩
 . rw [e] at z;refine Runs.mono (runs_appE_in (sz:=sz2) z D N L) fun G w' ⟨s,J,Y⟩ => ?_;have C:=N.now;refine M _ _ ⟨fun W hW z=>z.updSS s (fun c D=>by rw [dI.1 D];omega),fun v q h=>h.extS s C,fun Z q aa h=>h.extS s (by rw [dI];omega) C,s.size⟩ ?_;rw [Y];exact J.acc X (by simpa using D)
 . rw [e] at z I;exact Runs.mono (runs_appE_grow (sz:=sz) z I D L U V) fun G w' ⟨s,J⟩=>M _ _ ⟨fun W _ z=>z.trans s,fun v q h=>h.ext s,fun Z q _ h=>h.ext s,s.size⟩ J
theorem zEC {y:Operand} {q:Rat} (e:IsR w (σ y) q) (h:∀ v w',Ext w w'->OneR 0 q v w'->K v w'):Runs prog r ⟨d,.buildSlice 26 1 #[(0,y)],ty,pos,af,g⟩ σ w K :=
 Runs.mono (runs_one (sz:=0) e (di _)) fun v w' ⟨s,z⟩=>h v w' s z
theorem zIu {x y:Operand} {a p:Option Addr} (D:σ x = .slice a 0 0) (F:σ y = .slice p l.length cap) (I:PRd w p l) (N:l.length<=4096)
 (G:∀ v w',Ext w w'->zCT w.heap.size w' v l->K v w'):Runs prog r ⟨d,.call { callee := .builtin .append,args := #[x,y],argTypes := #[26,26] },ty,pos,af,g⟩ σ w K:=by
 by_cases H:l=[]
 . subst H;exact zEl zCr zCr zKc D F (cX _) (G _ _ (Ext.refl w) (.inl ⟨rfl,a,rfl⟩))
 . have M:0<l.length:=eC.2 H;obtain ⟨cs,s,z,C⟩:=I.cells;refine zAW zCr zCr zKc rfl dE D F (.inl rfl) rfl s z oM (by have:=zAc (0+l.length) 0;omega) fun w2 rest c hcc hE J hrest hs=>G _ _ hE (.inr ⟨_,c,by rw [dW],oM,cX _,_,J,by simp;omega,fun i L => ?_⟩);rw [gu,zDK oM];exact (C i L).ext hE
end laws
theorem RAt.lt {q:Rat} (h:RAt b q w):b<w.heap.size:=by obtain ⟨cs,e,_⟩:=h;exact e.lt
theorem sign_zero:x.num.sign=0↔x=0:=by rw [fU,fG]
theorem zHk (L:IsPoly w v l):Ret prog 78 #[v] w (fun r w'=>zCT w.heap.size w' r (trim l)):=by
 obtain ⟨p,cap,rfl,D,F,U⟩:=L;have E0:Ext w w:=Ext.refl w;refine J0 24 func78 rfl (rj (ag (rM 1 ?_)));refine rJ (K1 (zG slice26 rfl (ag (rM 9 ?_))));refine zA (zF (zX (X:=Nat) (fun n ρ w'=>Keep ρ [(0,.slice p l.length cap),(3,.int .i64 ((n:Nat):Int))]/\n<=l.length/\Ext w w'/\trim (l.take n)=trim l) (fun n=>n) l.length ⟨(kp rfl),cX _,E0,by rw [ej]⟩ ?_));rintro n ρ1 J ⟨M,V,E0,G⟩;refine wpe_k _ M ?_;refine zA (zA ?_);rcases n with _ | m
 . skip
   refine rI (K1 (zC (v := .bool false) rfl rfl (sB (cU oM)) (mv (K3 (K3 (K3 (K3 (K3 (K3 (K3 (pc0 rfl (rS 130569 ?_))))))))))));refine wcf rfl (zT (zt (zf (zI (zK (zA ?_))))));have h:trim l=l.take 0:=by rw [<- G];rfl
   have s:(trim l).length=0:=by rw [h];simp
   refine K6 (K1 (zCP zCr zGB fun b0 J I z N => ?_));replace E0:=E0.trans z;refine mv (mv (K1 (zBa slice26 rfl rfl oM oM ?_)));have hsz:=E0.size;refine K1 (zIu (l:=trim l) rfl (by rw [s];rfl) (by rw [h];exact (F.ext E0).take _) oM fun v w9 z hr => ?_);replace E0:=E0.trans z;refine ag (rS 13 ?_);exact zE (en rfl E0 (hr.le hsz))
 . have C:=F.ext E0;refine rI (K1 (zC (v := .bool true) rfl rfl (sB (cZ oM)) (mv (K7 (K7 (K2 (zAL (b:=1) m rfl rfl rfl oM (K2 (runs_pindex (l:=l) (cap:=cap) (ix:=m) C rfl rfl oM (K2 (runs_pload C (i:=m) oM rfl fun v13 hN13=>K2 (zJ yB (CallK.of_ret (Sign_ok hN13) fun v14 w2 z hr => ?_) rfl))))))))))));subst hr;replace E0:=E0.trans z;refine K2 (zC rfl rfl rfl (pc0 rfl (rS 130569 ?_)));refine K0 rfl ?_ ?_<;>intro D
   . have H:l.getD m 0=0:=sign_zero.1 (gC D);exact sk (zF (rI (K1 (zAL (b:=1) (m) rfl rfl rfl oM (ag (rl (zN (zL (⟨rfl,m,⟨(kp rfl),oM,E0,(zPP oM H).symm.trans G⟩,oM⟩)))))))))
   . have H:l.getD m 0≠0:=fun e=>dk.1 D (sign_zero.2 e);have h:trim l=l.take (m+1):=by rw [<- G,zRk oM H]
     have s:(trim l).length=m+1:=by rw [h];simp;omega
     refine zT (zt (zf (zI (zK (rj (K1 (zCP zCr zGB fun b0 J I z N => ?_)))))));replace E0:=E0.trans z;refine mv (mv (K1 (zBa slice26 rfl rfl oM oM ?_)));have hsz:=E0.size;refine K1 (zIu (l:=trim l) rfl (by rw [s];rfl) (by rw [h];exact (F.ext E0).take _) oM fun v w9 z hr => ?_);replace E0:=E0.trans z;refine ag (rM 13 ?_);exact zE (en rfl E0 (hr.le hsz))
theorem zBS (e:IsPoly w v l):Ret prog 78 #[v] w (fun r w'=>IsPoly w' r (trim l)) :=
 (zHk e).mono fun _ _ _ h=>h.poly (by obtain ⟨_,_,_,_,_,s⟩:=e;have:=zAV l;omega)
theorem zCn (e:IsPoly w v l):Ret prog 76 #[v] w (fun r _=>r = .int .i64 (((trim l).length:Int)-1)):=by
 refine J0 7 func76 rfl (rj (ag (rM 1 ?_)));refine rJ (K1 (j0 E0 yB (zBS e) fun s z E0 h => ?_));obtain ⟨p,c,rfl,_,_,C⟩:=h;refine K1 (zG slice26 rfl (K8 rfl ?_));rw [show IntKind.i64.wrap (((trim l).length:Int)-1)=((trim l).length:Int)-1 from zm oM oM];refine ag (rM 4 ?_);exact zE (en rfl E0 rfl)
theorem zPn (e:IsPoly w v l):Ret prog 83 #[v] w (fun r _=>r = .bool (decide (41<(trim l).length))):=by
 refine J0 6 func83 rfl (rj (ag (rM 1 ?_)));refine rJ (K1 (j0 E0 yB (zCn e) fun s z E0 h => ?_));subst h;refine K8 rfl (ag (rM 4 ?_));exact zE (en rfl E0 (cW Value.bool (fR.2 oM)))
theorem at_ok (L:IsPoly w v l):Ret prog 215 #[v,.int .i64 (i:Int)] w (fun r w'=>IsR w' r (l.getD i 0)):=by
 obtain ⟨p,cap,rfl,C,J,V⟩:=L;refine J0 14 func215 rfl (rj ?_);refine K1 (zR zero50 (Z0 E0 fun b1 w1 E0 hgb1 h=>rM 19 ?_));refine zA (rJ (mv (K1 (zG slice26 rfl (K8 rfl (rM 275 ?_))))));refine K0 rfl ?_ ?_<;>intro C
 . have s:i<l.length:=by have:=dh C;omega
   refine rJ (mv (K1 (runs_pindex (ix:=i) (J.ext E0) rfl rfl s (K1 (runs_pload (J.ext E0) (i:=i) s rfl fun N z=>K1 (runs_rstoreK rfl z (Cell3.of h rfl) fun _ w9 D F => ?_))))));replace E0:=E0.upd D hgb1;obtain ⟨cs,G,H,I⟩:=F;refine rm [4] ?_;exact zE (zU (zM ⟨rfl,_,zq rfl rfl rfl zAS G H,E0,I⟩))
 . have U:¬ i<l.length:=fun e=>de C oM;have M:l.getD i 0=0:=by rw [cC,ez oM];rfl
   refine sk (rj (K1 (zV (cs := #[.int .i64 0,.slice none 0 0,.slice none 0 0]) kR (K1 (zc zGB rfl h rfl (cw rfl) dE rfl fun X D F => ?_)))));replace E0:=E0.upd D hgb1;clear h;have h:=F;refine rm [4] ?_;exact zE (zM ⟨rfl,_,zq rfl rfl rfl zAS h rfl,E0,IsR.zero' M⟩)
theorem map_take_succ {f:Rat->Rat} (h:i<p.length):(p.take (i+1)).map f=(p.take i).map f++[f (p.getD i 0)]:=by
 rw [dG h,eK,cC,cY h];rfl
theorem zDL {p:List Rat} (N:IsPoly w u p) (G:IsR w v x) (H:∀ i,i<p.length->Room (p.getD i 0) x):Ret prog 130 #[u,v] w (fun r w'=>IsPoly w' r (trim (p.map (· * x)))):=by
 obtain ⟨pp,U,rfl,Y,M,J⟩:=N;obtain ⟨xn,xd,L,Z,aa⟩:=id G;subst L;refine J0 24 func130 rfl (rj ?_);refine K1 (zn (Z1 E0 G.ext fun D V E0 G hgb1 F=>ag (rM 9 ?_)));refine zA ?_;have s:RAt D x _:=⟨_,F,rfl,G⟩;have h:=F.lt;refine K6 (ag (rS 41 ?_));refine zA (rj (ag (rM 105 ?_)));refine zF (zX (X:=Nat) (fun i ρ w'=>∃ I,Keep ρ [(0,.slice pp p.length U),(3,.pointer (some ⟨D,0,none⟩)),(5,I),(6,.int .i64 ((i:Nat):Int))]/\i<=p.length/\Ext w w'/\RAt D x w'/\D<w'.heap.size/\AccP (D+1) w' I ((p.take i).map (· * x))) (fun i=>p.length-i) 0 ⟨_,(kp rfl),di _,E0,s,h,AccP.nil⟩ ?_)
 rintro i ad V ⟨I,e,ae,E0,s,h,C⟩;refine wpe_k _ e ?_;refine zA (rJ (mv (K1 (zG slice26 rfl (K8 rfl (rM 1129 ?_))))));refine K0 rfl ?_ ?_<;>intro hc
 . have z:i<p.length:=t_lt hc;refine sk (zA (zF (zAR none 8 [[10],[0],[12],[3,1],[1],[6],[3,1],[1]] mixed kR fun K hK=>dM aL (dM aL (dM aL (du (fun hE e=>runs_pindex (ix:=i) (M.ext (E0.trans hE)) e.1 e.2.1 z eR) (dc (fun hE e=>runs_pload (l:=p) (i:=i) (M.ext (E0.trans hE)) z e.1 fun _=>eX) (dc (fun hE e=>runs_rAt e.1 (s.ext hE) fun _=>eX) (dl (fun hE e=>Mul_ok e.1 e.2.1 (H i z)) (dC (fun v w'=>OneR 0 (p.getD i 0*x) v w') (fun hE e=>runs_one (sz:=0) e.1 (di _)) (zAJ (hK _ fun wq hE => ?_))))))))))));rintro _ rfl _ rfl _ rfl v16 N16 v17 N17 v18 N18 v19 N19 v20 N20;refine zY ?_;obtain ⟨E0,s,C⟩:=V2 hE E0 s.ext C.ext;have h:=s.lt;refine K1 (zEu rfl C N20 (by simp;omega) h fun v' w9 hN C => ?_);replace E0:=hN.ext _ oM E0;replace s:=hN.at_ _ _ oM s;have h:=fm h hN.size;refine ag (zAh (zN (zK (K5 [0,3,5,6] ?_))));refine rI (K8 rfl (ag (rl (zL ?_))));exact ⟨rfl,i+1,⟨_,kw,oM,E0,s,oM,by rw [map_take_succ z];exact C⟩,oM⟩
 . have ah:=f_lt hc;obtain rfl:i=p.length:=by omega
   rw [ej] at C;refine zT (zt (zf (zI (zK (rJ (K1 (j0 E0 yB (zBS (C.poly (by simpa using J))) fun ai w2 E0 H=>ag (rM 89 ?_))))))));exact zE (en rfl E0 H)
def addR (p q:Poly):Poly:=(List.range (max p.length q.length)).map fun i=>p.getD i 0+q.getD i 0
theorem zJb {p q:List Rat} (Z:IsPoly w u p) (hq:IsPoly w v q) (H:∀ i,i<max p.length q.length->Room (p.getD i 0) (q.getD i 0)):Ret prog 129 #[u,v] w (fun r w'=>zCT w.heap.size w' r (trim (addR p q))):=by
 obtain ⟨pp,I,rfl,C,U,D⟩:=Z;obtain ⟨J,L,rfl,F,V,G⟩:=hq;have E0:Ext w w:=Ext.refl w;refine J0 31 func129 rfl (rj (ag (rM 3 ?_)));refine rj (ag (rM 35 ?_));refine zA (rj (ag (rM 99 ?_)));refine zF (zX (X:=Nat) (fun i ρ w'=>∃ M,Keep ρ [(0,.slice pp p.length I),(1,.slice J q.length L),(5,M),(6,.int .i64 ((i:Nat):Int))]/\i<=max p.length q.length/\Ext w w'/\AccP w.heap.size w' M ((List.range i).map fun i=>p.getD i 0+q.getD i 0)) (fun i=>max p.length q.length-i) 0 ⟨_,(kp rfl),di _,E0,AccP.nil⟩ ?_);rintro i ρ1 w1 ⟨M,hk,ai,E0,e⟩;refine wpe_k _ hk ?_;refine zA (zA ?_);rcases (oM:i<p.length\/(¬ i<p.length/\i<q.length)\/(¬ i<p.length/\¬ i<q.length)) with Y | ⟨Y,h2⟩ | ⟨Y,h2⟩
 . have s:i<max p.length q.length:=by omega
   refine rI (mv (K1 (zG slice26 rfl (K1 (zC (v := .bool true) rfl rfl (sB (cZ oM)) (mv (K3 (K3 (K3 (K3 (pc0 rfl (rS 127075 ?_))))))))))));refine wct rfl (sk (zA (zF (rI (mv (mv (K1 (j1 E0 e.ext yB (at_ok (i:=i) ⟨pp,I,rfl,C,U.ext E0,D⟩) fun va z E0 e h=>mv (mv (K1 (j2 E0 e.ext h.ext yB (at_ok (i:=i) ⟨J,L,rfl,F,V.ext E0,G⟩) fun vb z E0 e h N2=>K1 (j1 E0 e.ext yB (zFH h N2 (H i s)) fun vc z E0 e N3=>K1 (zEC N3 fun v4 w4 hE N4 => ?_)))))))))))));obtain ⟨E0,e⟩:=V1 hE E0 e.ext;refine K1 (zEu rfl e N4 (by simp;omega) E0.size fun v' w9 hN e => ?_);replace E0:=hN.ext _ (cX _) E0;refine ag (rl (zN (zK (K5 [0,1,5,6,12,13,14,15] ?_))));refine rI (K8 rfl (ag (rl (zL ?_))));exact ⟨rfl,i+1,⟨_,kw,oM,E0,by rw [iA,eK];exact e⟩,oM⟩
 . have s:i<max p.length q.length:=by omega
   refine rI (mv (K1 (zG slice26 rfl (K1 (zC (v := .bool false) rfl rfl (sB (cU oM)) (mv (K7 (K7 (K2 (zG slice26 rfl (K2 (zC (v := .bool true) rfl rfl (sB (cZ oM)) (pc0 rfl (rS 127075 ?_))))))))))))));refine wct rfl (sk (zA (zF (rI (mv (mv (K1 (j1 E0 e.ext yB (at_ok (i:=i) ⟨pp,I,rfl,C,U.ext E0,D⟩) fun va z E0 e h=>mv (mv (K1 (j2 E0 e.ext h.ext yB (at_ok (i:=i) ⟨J,L,rfl,F,V.ext E0,G⟩) fun vb z E0 e h N2=>K1 (j1 E0 e.ext yB (zFH h N2 (H i s)) fun vc z E0 e N3=>K1 (zEC N3 fun v4 w4 hE N4 => ?_)))))))))))));obtain ⟨E0,e⟩:=V1 hE E0 e.ext;refine K1 (zEu rfl e N4 (by simp;omega) E0.size fun v' w9 hN e => ?_);replace E0:=hN.ext _ (cX _) E0;refine ag (rl (zN (zK (K5 [0,1,5,6,12,13,14,15] ?_))));refine rI (K8 rfl (ag (rl (zL ?_))));exact ⟨rfl,i+1,⟨_,kw,oM,E0,by rw [iA,eK];exact e⟩,oM⟩
 . obtain rfl:i=max p.length q.length:=by omega
   refine rI (mv (K1 (zG slice26 rfl (K1 (zC (v := .bool false) rfl rfl (sB (cU oM)) (mv (K7 (K7 (K2 (zG slice26 rfl (K2 (zC (v := .bool false) rfl rfl (sB (cU oM)) (pc0 rfl (rS 127075 ?_))))))))))))));refine wcf rfl (zT (zt (zf (zI (zK (rj (mv ?_)))))));have N:=E0.size;refine K1 (j0 E0 yB (zHk (e.poly (by simp;omega))) fun v30 z E0 H => ?_);refine ag (rM 83 ?_);exact zE (en rfl E0 (H.le N))
theorem zHO {p q:List Rat} (s:IsPoly w u p) (z:IsPoly w v q) (C:∀ i,i<max p.length q.length->Room (p.getD i 0) (q.getD i 0)):Ret prog 129 #[u,v] w (fun r w'=>IsPoly w' r (trim (addR p q))) :=
 (zJb s z C).mono fun _ _ _ h=>h.poly (by
  obtain ⟨_,_,_,_,_,D⟩:=s;obtain ⟨_,_,_,_,_,F⟩:=z;have:=zAV (addR p q);have e:(addR p q).length=max p.length q.length:=by simp [addR]
  omega)
variable {ix j k len n o:Nat} {q:Poly}
def rowsR (p q:Poly):Nat->Nat->Rat
 | 0,_=>0
 | i+1,k=>rowsR p q i k+(if i<=k then p.getD i 0*q.getD (k-i) 0 else 0)
def partR (p q:Poly) (i j k:Nat):Rat:=rowsR p q i k+(if i<=k/\k<i+j then p.getD i 0*q.getD (k-i) 0 else 0)
def mulR (p q:Poly):Poly:=(List.range (p.length+q.length)).map fun k=>rowsR p q p.length k
def zFi (p q:Poly):Prop:=∀ i j,i<p.length->j<q.length->Room (p.getD i 0) (q.getD j 0)/\Room (partR p q i j (i+j)) (p.getD i 0*q.getD j 0)
theorem part_zero (p q:Poly) (i k:Nat):partR p q i 0 k=rowsR p q i k:=by
 unfold partR;rw [ct oM,eD]
theorem part_end (p q:Poly) (i k:Nat):partR p q i q.length k=rowsR p q (i+1) k:=by
 unfold partR;rw [rowsR];by_cases e:i<=k
 . rw [cD e];by_cases s:k<i+q.length
   . rw [cD ⟨e,s⟩]
   . rw [ct (fun h=>s h.2),cC (l:=q),ez oM];show _=_+p.getD i 0*0;rw [ed]
 . rw [ct (fun h=>e h.1),ct e]
theorem part_step {O:Poly} {L:Nat} (z:O.length=L) (s:i+j<L) (h:∀ k,k<L->O.getD k 0=partR p q i j k):∀ k,k<L->(O.set (i+j) (O.getD (i+j) 0+p.getD i 0*q.getD j 0)).getD k 0=partR p q i (j+1) k:=fun k C=>by
 by_cases e:k=i+j
 . subst e;rw [show (O.set (i+j) (O.getD (i+j) 0+p.getD i 0*q.getD j 0)).getD (i+j) 0=O.getD (i+j) 0+p.getD i 0*q.getD j 0 from by simp [z,s],h _ s];unfold partR;rw [ct oM,cD oM,eD,show i+j-i=j by omega]
 . rw [show (O.set (i+j) (O.getD (i+j) 0+p.getD i 0*q.getD j 0)).getD k 0=O.getD k 0 from by simp [fz (eH e)],h k C];unfold partR;congr 1;by_cases h1:i<=k/\k<i+j
   . rw [cD h1,cD oM]
   . rw [ct h1,ct oM]
theorem mul_end {O:Poly} (e:O.length=p.length+q.length) (h:∀ k,k<p.length+q.length->O.getD k 0=rowsR p q p.length k):O=mulR p q:=by
 refine gw fun k => ?_;unfold mulR;rw [fC];by_cases hk:k<p.length+q.length
 . have:=h k hk;rw [cC,cY oM] at this;rw [cY oM,List.getElem?_range hk];exact cW some this
 . rw [ez oM,ez (by simp;omega)];rfl
theorem PBlk.zeros (h:Blk w b 50 ((List.replicate n (Value.agg #[.int .i64 0,.slice none 0 0,.slice none 0 0]).cells.toList).flatten)):PBlk w b (List.replicate n 0):=by
 refine ⟨_,h,?_,fun i e => ?_⟩
 . rw [zIZ _ _ rfl,fF];exact cX _
 . rw [fF] at e;rw [show (Value.agg #[.int .i64 0,.slice none 0 0,.slice none 0 0]).cells.toList=[Value.int .i64 0,.slice none 0 0,.slice none 0 0] from rfl,flat3 _ _ _ n i e,show (List.replicate n (0:Rat)).getD i 0=0 from by simp [gN,e]];exact IsR.zero
section laws
variable {d:Option Tmp}
theorem zCH {x:Operand} (e:σ x = .pointer (some ⟨b,o,none⟩)) (h:o=3*k) (s:PBlk w b l) (z:k<l.length) (C:∀ v,IsR w v (l.getD k 0)->K v w):Runs prog r ⟨d,.load 50 x,ty,pos,af,g⟩ σ w K:=by
 subst h;obtain ⟨cs,D,G,F⟩:=s;exact zMJ e D oM (F k z) C
theorem zDW {x i:Operand} {k:IntKind} (e:σ x = .slice (some ⟨b,0,none⟩) len cap) (h:σ i = .int k (ix:Int)) (z:ix<len) (s:K (.pointer (some ⟨b,3*ix,none⟩)) w):Runs prog r ⟨d,.indexAddr 26 x i,ty,pos,af,g⟩ σ w K:=by
 refine zH slice26 e h oM oM ?_;rw [show 0+((ix:Nat):Int).toNat*3=3*ix from by omega];exact s
end laws
theorem zDi {p q:List Rat} (hp:IsPoly w u p) (hq:IsPoly w v q) (ah:p.length+q.length<=4096) (L:zFi p q):Ret prog 128 #[u,v] w (fun r w'=>IsPoly w' r (trim (mulR p q))):=by
 obtain ⟨pp,V,rfl,am,Y,an⟩:=hp;obtain ⟨Z,qc,rfl,ao,hQ,ap⟩:=hq;refine J0 49 func128 rfl (rj (ag (rM 3 ?_)));refine rJ (K1 (zG slice26 rfl (mv (K1 (zG slice26 rfl (K1 (zg (p.length+q.length) rfl rfl rfl oM ?_)))))));refine K1 (zAK zCr zKc rfl rfl rfl oM oM oM fun G w1 hb1 hE hB hs => ?_);have hob:w.heap.size<=G:=dS hb1.symm;replace E0:=E0.trans hE;rw [show ((p.length+q.length:Nat):Int).toNat=p.length+q.length from by omega] at hB ⊢;have h:=PBlk.zeros hB;refine ag (rM 35 ?_);refine zA (rj (ag (rM 99 ?_)));refine zF (zX (X:=Nat) (fun i ρ w'=>Keep ρ [(0,.slice pp p.length V),(1,.slice Z q.length qc),(5,.slice (some ⟨G,0,none⟩) (p.length+q.length) (p.length+q.length)),(6,.int .i64 ((i:Nat):Int))]/\i<=p.length/\Ext w w'/\∃ O,O.length=p.length+q.length/\PBlk w' G O/\∀ k,k<p.length+q.length->O.getD k 0=rowsR p q i k) (fun i=>p.length-i) 0 ⟨(kp rfl),di _,E0,_,sM,h,fun k e=>by simp [rowsR,e]⟩ ?_);rintro i ρ1 w1 ⟨e,aq,E0,O,H,h,hA⟩;refine wpe_k _ e ?_;refine zA (rJ (mv (K1 (zG slice26 rfl (K8 rfl (rM 131171 ?_))))));refine K0 rfl ?_ ?_<;>intro hc
 . have C:i<p.length:=t_lt hc;refine sk (zA (zF (rj (ag (rM 227 ?_)))));refine zF ?_;refine zX (X:=Nat) (fun j ρ w'=>Keep ρ [(0,.slice pp p.length V),(1,.slice Z q.length qc),(5,.slice (some ⟨G,0,none⟩) (p.length+q.length) (p.length+q.length)),(6,.int .i64 ((i:Nat):Int)),(7,.int .i64 ((j:Nat):Int))]/\j<=q.length/\Ext w w'/\∃ O,O.length=p.length+q.length/\PBlk w' G O/\∀ k,k<p.length+q.length->O.getD k 0=partR p q i j k) (fun j=>q.length-j) 0 ⟨(kp rfl),di _,E0,O,H,h,fun k e=>by rw [part_zero];exact hA k e⟩ ?_;clear h;rintro j ρ3 w3 ⟨e,ar,E0,M,z,s,D⟩;refine wpe_k _ e ?_;refine zA (rJ (mv (K1 (zG slice26 rfl (K8 rfl (rM 8388835 ?_))))));refine K0 rfl ?_ ?_<;>intro hc
   . have F:j<q.length:=t_lt hc;obtain ⟨N,I⟩:=L i j C F;rw [<- D (i+j) oM] at I;refine sk (zA (zF (zAR none 20 [[10],[12],[14],[3,1],[10],[12],[14],[3,1],[7,1],[1],[0],[12],[3,1],[1],[2],[14],[3,1],[1],[9,1],[19,1]] mixed kR fun K hK=>dM aL (dM aL (dM aL (du (fun hE e=>zg (i+j) e.1 e.2.1 rfl oM eR) (dM aL (dM aL (dM aL (du (fun hE e=>zg (i+j) e.1 e.2.1 rfl oM eR) (du (fun hE e=>zDW e.1 e.2.1 oM eR) (dC (fun v w'=>IsR w' v (M.getD (i+j) 0)) (fun hE e=>zCH (l:=M) (k:=i+j) e.1 rfl (s.ext hE) oM fun _=>eX) ?_))))))))))));refine dM aL (dM aL (du (fun hE e=>runs_pindex (ix:=i) (Y.ext (E0.trans hE)) e.1 e.2.1 C eR) (dc (fun hE e=>runs_pload (l:=p) (i:=i) (Y.ext (E0.trans hE)) C e.1 fun _=>eX) (dM aL (dM aL (du (fun hE e=>runs_pindex (ix:=j) (hQ.ext (E0.trans hE)) e.1 e.2.1 F eR) (dc (fun hE e=>runs_pload (l:=q) (i:=j) (hQ.ext (E0.trans hE)) F e.1 fun _=>eX) (dl (fun hE e=>Mul_ok e.1 e.2.1 N) (dl (fun hE e=>zFH e.1 e.2.1 I) (zAJ (hK _ fun wq hE => ?_)))))))))));rintro _ rfl _ rfl _ rfl _ rfl _ rfl _ rfl _ rfl _ rfl v34 N34 v35 N35 _ rfl _ rfl v38 N38 v39 N39 _ rfl _ rfl v42 N42 v43 N43 v44 N44 v45 N45;refine zY ?_;replace E0:=E0.trans hE;replace s:=s.ext hE;have h:=s
     refine K1 (zDW (ix:=i+j) rfl rfl oM (K1 (zBE (k:=i+j) rfl rfl N45 h oM fun _ w9 hU J => ?_)));replace E0:=E0.upd hU hob;clear h;have h:=J;refine zAh (zN (zK (K5 [0,1,5,6,7] ?_)));refine rI (K8 rfl (ag (rl (zL ?_))));exact ⟨rfl,j+1,⟨kw,oM,E0,_,by rw [ff];exact z,h,part_step z oM D⟩,oM⟩
   . have U:=f_lt hc;obtain rfl:j=q.length:=by omega
     exact zT (zt (zf (zI (zN (zK (rI (K8 rfl (ag (rl (zL (⟨rfl,i+1,⟨kw,oM,E0,M,z,s,fun k e=>(D k e).trans (part_end p q i k)⟩,oM⟩)))))))))))
 . have U:=f_lt hc;obtain rfl:i=p.length:=by omega
   refine zT (zt (zf (zI (zK (rj (mv ?_))))));rw [mul_end H hA] at h;refine K1 (j0 E0 yB (zBS (l:=mulR p q) ⟨some ⟨G,0,none⟩,p.length+q.length,by rw [show (mulR p q).length=p.length+q.length from by simp [mulR]];rfl,by simp [mulR],h.rd,by simp [mulR];omega⟩) fun v48 w9 E0 L => ?_);refine ag (rM 115 ?_);exact zE (en rfl E0 L)
theorem OneR.poly {sz:Nat} {q:Rat} (h:OneR sz q v w):IsPoly w v [q]:=by
 obtain ⟨b,D,F,G,e,H,s,z⟩:=h;refine ⟨_,1,e,cX _,.inr ⟨b,0,_,rfl,s,sM,fun i C => ?_⟩,sM⟩;obtain rfl:i=0:=by simpa using C
 exact z
variable {y:Rat}
theorem RAt.cell {q:Rat} (h:RAt b q w):Cell3 b w:=by obtain ⟨cs,e,s,_⟩:=h;exact ⟨cs,e,s⟩
theorem RAt.blk {q:Rat} (h:RAt b q w):∃ cs,Blk w b 50 cs:=by obtain ⟨cs,e,_⟩:=h;exact ⟨cs,e⟩
theorem over_ok (e:IsR w u x) (h:IsR w v y) (H:Room x y):Ret prog 111 #[u,v] w (fun r w'=>IsR w' r (x/y)):=by
 obtain ⟨N,U,z,I,J⟩:=id e;obtain ⟨V,X,C,L,M⟩:=id h;subst z;subst C;refine J0 14 func111 rfl (rj ?_);refine K1 (zn (Z2 E0 e.ext h.ext fun b1 w1 E0 e h hgb1 hB1 => ?_));refine K1 (zn (Z3a E0 e.ext h.ext hB1.ext hB1.lt fun b2 w2 E0 e h hB1 hgb2 ne_b1_b2 hB2 => ?_));refine K1 (zR zero50 (Z4b E0 e.ext h.ext hB1.ext hB2.ext hB1.lt hB2.lt fun b3 w3 E0 e h hB1 hB2 hgb3 ne_b1_b3 ne_b2_b3 hB3=>rM 28 ?_));refine rj (K1 (zh zAS rfl hB1 (cw rfl) (K1 (zh zAS rfl hB2 (cw rfl) (K1 (j1 E0 hB3.ext yB (zNm e h H) fun v10 w2 E0 hB3 N10 => ?_))))));obtain ⟨q,rfl,s⟩:=N10;refine mv (xt rfl (xt rfl ?_));refine K1 (zR zero50 (Z2a E0 s.ext hB3.ext hB3.lt fun bq w7 E0 s hB3 hgq hne hBq=>K1 (runs_rstoreK rfl s (Cell3.of hBq rfl) fun _ w9 hU hNq => ?_)));replace E0:=E0.upd hU hgq;replace hB3:=hB3.upd hU hne;refine ag (rM 48 ?_);refine rj (K1 (runs_rAt rfl hNq fun v13 hq2=>K1 (runs_rstoreK rfl hq2 (Cell3.of hB3 rfl) fun _ w9 hU hN => ?_)));replace E0:=E0.upd hU hgb3;obtain ⟨cs,D,F,G⟩:=hN;refine rm [4] ?_;exact zE (zM ⟨rfl,_,zq rfl rfl rfl zAS D F,E0,G⟩)
theorem shift_res (s:x≠0) (h:IsR w v (qOf (decide (x.num.sign<0)) (if x.num.sign=0 then 0 else x.num.natAbs*2^k) x.den)):IsR w v (x*((2^k:Nat):Rat)):=by
 obtain ⟨z,C⟩:=zFF s;have h3:¬ (((2^k:Nat):Rat)<0):=Rat.not_lt.2 (by exact_mod_cast di _);have e:=q_mul x ((2^k:Nat):Rat);rw [cU h3,Rat.num_natCast,Rat.den_natCast,fT,gW] at e;rw [ct C,z] at h;rw [e];cases hd:decide (x<0)<;>rw [hd] at h<;>exact h
theorem Shift_ok (F:IsR w u x) (h:k<1000) (J:Fit x.num.natAbs/\Fits (x.num.natAbs*2^k)/\Fits x.den):Ret prog 122 #[u,.int .i64 (k:Int)] w (fun r w'=>IsR w' r (x*((2^k:Nat):Rat))):=by
 obtain ⟨xn,xd,X,z,s⟩:=id F;obtain ⟨xp,xl,xc,rfl,-⟩:=z.form;obtain ⟨Z,aa,ad,rfl,-⟩:=s.form;subst X;refine J0 30 func122 rfl (rj ?_);refine K1 (zn (Z3 E0 F.ext z.ext s.ext fun b1 w1 E0 F z s hgb1 e => ?_));refine K1 (zR zero50 (Z4a E0 F.ext z.ext s.ext e.ext e.lt fun b2 w2 E0 F z s e hgb2 ne_b1_b2 C=>rM 22 ?_));refine zA (zA ?_);rcases (show x=0\/x≠0 from iu _) with G | G
 . have L:(x.num.sign==0)=true:=by rw [G];rfl
   refine K6 (K1 (zB zBL rfl (K1 (zD zAT rfl e rfl (K8 rfl (rS 150 ?_))))));refine wct (cW Value.bool L) (rj (K1 (zh zAS rfl e (cw rfl) (K1 (runs_rstoreK rfl F (Cell3.of C rfl) fun _ Y M N => ?_)))));replace E0:=E0.upd M hgb2;obtain ⟨cs,H,I,D⟩:=N;refine rm [4] ?_;refine zE (zU (zM ?_));exact ⟨rfl,_,zq rfl rfl rfl zAS H I,E0,by rw [G,dO];rw [G] at D;exact D⟩
 . have L:(x.num.sign==0)=false:=dk.2 (zFF G).2;rw [ct G] at s;refine K6 (K1 (zB zBL rfl (K1 (zD zAT rfl e rfl (K8 rfl (rS 150 ?_))))));refine wcf (cW Value.bool L) (sk (zA (rJ (K8 rfl (rM 1046 ?_)))));refine wcf vF (sk (zA (zAR none 9 [[4],[1],[4],[1],[2],[3,1],[4],[1],[13,5,1]] mixed kR fun K hK=>du (fun hE h=>zB zBL h.1 eR) (du (fun hE h=>zD zAT h.1 (e.ext hE) rfl eR) (du (fun hE h=>zB zEf h.1 eR) (du (fun hE h=>zD zAi h.1 (e.ext hE) rfl eR) (dM aL (dC (fun v w'=>IsN w' v (x.num.natAbs*2^k)) (fun hE h=>zJ yB (CallK.eq2 rfl h.2.1 (CallK.of_ret (zKf (IsN.of_eq h.1 (z.ext hE)) J.1 oM) fun v w2 U V=>⟨U,V⟩)) rfl) (du (fun hE h=>zB zCL h.1 eR) (du (fun hE h=>zD zAi h.1 (e.ext hE) rfl eR) (dC (fun v w'=>IsR w' v (x*((2^k:Nat):Rat))) (fun hE h=>zJ yB (CallK.eq3 h.1 rfl rfl (CallK.of_ret (zGQ (sign3 x) h.2.1 (IsN.of_eq h.2.2.1 (s.ext hE)) x.den_nz J.2.1 J.2.2) fun v w2 U V=>⟨U,shift_res G V⟩)) rfl) (zAJ (hK _ fun wq hE => ?_)))))))))))));rintro _ rfl _ rfl _ rfl _ rfl _ rfl v26 N26 _ rfl _ rfl v29 N29;refine zY ?_;obtain ⟨E0,F,z,s,e,C⟩:=V5 hE E0 F.ext z.ext s.ext e.ext C.ext
   refine K1 (runs_rstoreK rfl N29 (Cell3.of C rfl) fun _ Y M N => ?_);replace E0:=E0.upd M hgb2;obtain ⟨cs,H,I,D⟩:=N;refine zAh (zK (K5 [4] ?_));exact zE (zM ⟨rfl,_,zq rfl rfl rfl zAS H I,E0,D⟩)
section laws
variable {d:Option Tmp}
theorem runs_two {x y:Operand} {p q:Rat} (z:IsR w (σ x) p) (C:IsR w (σ y) q) (D:∀ v w',Ext w w'->IsPoly w' v [p,q]->K v w'):Runs prog r ⟨d,.buildSlice 26 2 #[(0,x),(1,y)],ty,pos,af,g⟩ σ w K:=by
 have e:=z;have hy0:=C;obtain ⟨n,F,he,M,N⟩:=z;obtain ⟨G,s,h,J,L⟩:=C;rw [he] at e;rw [h] at hy0;refine zi (cs:=[.int .i64 p.num.sign,n,F,.int .i64 q.num.sign,G,s]) zCr info50' dE dE ?_ fun b w' hb hE H hs'=>D _ _ hE ⟨some ⟨b,0,none⟩,2,rfl,cX _,.inr ⟨b,0,_,rfl,H,sM,fun i I => ?_⟩,sM⟩
 . show Instr.fill _ _ [(0,σ x),(1,σ y)]=_;rw [he,h]
   kernel_rfl
 . match i,I with
   | 0,_=>exact e.ext hE
   | 1,_=>exact hy0.ext hE
end laws
section laws
variable {d:Option Tmp}
end laws
theorem zNa (s:Int) (h:s=1\/s = -1\/s=0):IntKind.i64.wrap (0-s) = -s/\IntKind.i64.wrap (s*s)=s.natAbs:=by
 rcases h with rfl | rfl | rfl<;>exact ⟨dK,dK⟩
theorem zSs {t b:Value} (C:IsN w t x.num.natAbs) (s:IsN w b (if x=0 then 0 else x.den)):IsR w (.agg #[.int .i64 (IntKind.i64.wrap (0-x.num.sign)),t,b]) (-x):=by
 refine ⟨t,b,?_,by rw [hZ,fx];exact C,?_⟩
 . rw [(zNa _ (sign3 x)).1,hZ,Int.sign_neg]
 . rw [iN];by_cases h:x=0
   . rw [cD h] at s;rw [cD (by rw [h];rfl)];exact s
   . rw [ct h] at s;rw [ct (fun e=>h (by have:=cW (fun z => -z) e;simpa using this))];exact s
def absR (x:Rat):Rat:=if x<0 then -x else x
theorem isR_abs {t b:Value} (e:IsN w t x.num.natAbs) (s:IsN w b (if x=0 then 0 else x.den)):IsR w (.agg #[.int .i64 (IntKind.i64.wrap (x.num.sign*x.num.sign)),t,b]) (absR x):=by
 rw [(zNa _ (sign3 x)).2];unfold absR;by_cases h:x=0
 . subst h;exact ⟨t,b,rfl,e,s⟩
 . rcases zDn h with ⟨z,C⟩ | ⟨z,C⟩
   . rw [ct (de C)];exact ⟨t,b,by rw [z];rfl,e,s⟩
   . rw [cD (dh C)];have:=zSs e s;rw [z] at this ⊢;exact this
theorem zLW (H:IsR w v x):Ret prog 175 #[v] w (fun r w'=>IsR w' r (-x)):=by
 obtain ⟨M,N,rfl,e,h⟩:=H;obtain ⟨I,J,L,rfl,-⟩:=e.form;obtain ⟨s,z,C,rfl,-⟩:=h.form;refine J0 11 func175 rfl (rj ?_);refine K1 (zn (Z2 E0 e.ext h.ext fun b1 w1 E0 e h hgb1 hB1 => ?_));refine K1 (zR zero50 (Z3a E0 e.ext h.ext hB1.ext hB1.lt fun b2 w2 E0 e h hB1 hgb2 ne_b1_b2 hB2=>rM 6 ?_));refine rj (K1 (zB zBL rfl (K1 (zD zAT rfl hB1 rfl (K1 (zEQ rfl (K1 (zB zEf rfl (K1 (zD zAi rfl hB1 rfl (K1 (zB zCL rfl (K1 (zD zAi rfl hB1 rfl (K1 (zV (cs := #[.int .i64 (IntKind.i64.wrap (0-x.num.sign)),.slice I J L,.slice s z C]) kR (K1 (runs_rstoreK rfl (zSs e h) (Cell3.of hB2 rfl) fun _ w9 hU hN => ?_))))))))))))))))));replace E0:=E0.upd hU hgb2;obtain ⟨cs,D,F,G⟩:=hN;refine rM 4 ?_;exact zE (zM ⟨rfl,_,zq rfl rfl rfl zAS D F,E0,G⟩)
theorem zNj (H:IsR w v x):Ret prog 292 #[v] w (fun r w'=>IsR w' r (absR x)):=by
 obtain ⟨M,N,rfl,e,h⟩:=H;obtain ⟨I,J,L,rfl,-⟩:=e.form;obtain ⟨s,z,C,rfl,-⟩:=h.form;refine J0 13 func292 rfl (rj ?_);refine K1 (zn (Z2 E0 e.ext h.ext fun b1 w1 E0 e h hgb1 hB1 => ?_));refine K1 (zR zero50 (Z3a E0 e.ext h.ext hB1.ext hB1.lt fun b2 w2 E0 e h hB1 hgb2 ne_b1_b2 hB2=>rM 6 ?_));refine rj (K1 (zB zBL rfl (K1 (zD zAT rfl hB1 rfl (K1 (zB zBL rfl (K1 (zD zAT rfl hB1 rfl (K8 rfl (K1 (zB zEf rfl (K1 (zD zAi rfl hB1 rfl (K1 (zB zCL rfl (K1 (zD zAi rfl hB1 rfl (K1 (zV (cs := #[.int .i64 (IntKind.i64.wrap (x.num.sign*x.num.sign)),.slice I J L,.slice s z C]) kR (K1 (runs_rstoreK rfl (isR_abs e h) (Cell3.of hB2 rfl) fun _ w9 hU hN => ?_)))))))))))))))))))));replace E0:=E0.upd hU hgb2;obtain ⟨cs,D,F,G⟩:=hN;refine rM 4 ?_;exact zE (zM ⟨rfl,_,zq rfl rfl rfl zAS D F,E0,G⟩)
theorem sz_negR (x:Rat):sz (-x)=sz x:=by unfold sz;rw [hZ,fx,iN]
theorem Room.negr (h:Room x y):Room x (-y):=by unfold Room at *;rw [sz_negR];exact h
theorem zQP (s:IsR w u x) (z:IsR w v y) (L:Room x y):Ret prog 183 #[u,v] w (fun r w'=>IsR w' r (x-y)):=by
 obtain ⟨X,Y,F,M,N⟩:=id s;obtain ⟨Z,yd,G,U,V⟩:=id z;subst F;subst G;refine J0 9 func183 rfl (rj ?_);refine K1 (zn (Z2 E0 s.ext z.ext fun b1 w1 E0 s z hgb1 e => ?_));refine K1 (zn (Z3a E0 s.ext z.ext e.ext e.lt fun b2 w2 E0 s z e hgb2 ne_b1_b2 h => ?_));refine K1 (zR zero50 (Z4b E0 s.ext z.ext e.ext h.ext e.lt h.lt fun b3 w3 E0 s z e h hgb3 ne_b1_b3 ne_b2_b3 D=>rM 28 ?_));refine zA (zAR none 4 [[4],[6],[1],[5,1]] mixed kR fun K hK=>dC (fun v w'=>IsR w' v (x)) (fun C hk=>zh zAS hk.1 (e.ext C) (cw rfl) ⟨Ext.refl _,s.ext C⟩) (dC (fun v w'=>IsR w' v (y)) (fun C hk=>zh zAS hk.1 (h.ext C) (cw rfl) ⟨Ext.refl _,z.ext C⟩) (dl (fun C hk=>zLW hk.1) (dl (fun C hk=>zFH hk.1 hk.2.1 L.negr) (zAJ (hK _ fun wq C => ?_))))));rintro v5 N5 v6 N6 v7 N7 v8 N8;refine zY ?_;obtain ⟨E0,s,z,e,h,D⟩:=V5 C E0 s.ext z.ext e.ext h.ext D.ext;refine K1 (runs_rstoreK rfl N8 (Cell3.of D rfl) fun _ w9 hU hN => ?_);replace E0:=E0.upd hU hgb3;obtain ⟨cs,H,I,J⟩:=hN;refine zAh (zK (K5 [4] ?_));refine zE (zM ?_);exact ⟨rfl,_,zq rfl rfl rfl zAS H I,E0,by rw [iq];exact J⟩
theorem zNG (e:IsR w u x) (h:IsR w v y) (H:Room x y):Ret prog 275 #[u,v] w (fun r w'=>IsR w' r (x/y)):=by
 obtain ⟨N,U,z,I,J⟩:=id e;obtain ⟨V,X,C,L,M⟩:=id h;subst z;subst C;refine J0 14 func275 rfl (rj ?_);refine K1 (zn (Z2 E0 e.ext h.ext fun b1 w1 E0 e h hgb1 hB1 => ?_));refine K1 (zn (Z3a E0 e.ext h.ext hB1.ext hB1.lt fun b2 w2 E0 e h hB1 hgb2 ne_b1_b2 hB2 => ?_));refine K1 (zR zero50 (Z4b E0 e.ext h.ext hB1.ext hB2.ext hB1.lt hB2.lt fun b3 w3 E0 e h hB1 hB2 hgb3 ne_b1_b3 ne_b2_b3 hB3=>rM 28 ?_));refine rj (K1 (zh zAS rfl hB1 (cw rfl) (K1 (zh zAS rfl hB2 (cw rfl) (K1 (j1 E0 hB3.ext yB (zNm e h H) fun v10 w2 E0 hB3 N10 => ?_))))));obtain ⟨q,rfl,s⟩:=N10;refine mv (xt rfl (xt rfl ?_));refine K1 (zR zero50 (Z2a E0 s.ext hB3.ext hB3.lt fun bq w7 E0 s hB3 hgq hne hBq=>K1 (runs_rstoreK rfl s (Cell3.of hBq rfl) fun _ w9 hU hNq => ?_)));replace E0:=E0.upd hU hgq;replace hB3:=hB3.upd hU hne;refine ag (rM 48 ?_);refine rj (K1 (runs_rAt rfl hNq fun v13 hq2=>K1 (runs_rstoreK rfl hq2 (Cell3.of hB3 rfl) fun _ w9 hU hN => ?_)));replace E0:=E0.upd hU hgb3;obtain ⟨cs,D,F,G⟩:=hN;refine rm [4] ?_;exact zE (zM ⟨rfl,_,zq rfl rfl rfl zAS D F,E0,G⟩)
theorem zRB (h:0<x.num):0<x:=by
 refine gm fun e => ?_;by_cases h0:x=0
 . rw [h0] at h;exact absurd h dE
 . have:=(zCE x).1 gR;omega
theorem zTi (h:x.num.sign<y.num.sign):rcmpI x y = -1:=by
 have:x<y:=by
  rcases gO x.num 0 with a | a | a<;>rcases gO y.num 0 with b | b | b
  . rw [eu a,eu b] at h;omega
  . have e:=(zCE x).2 a;have h2:=fG.1 b;grind
  . have e:=(zCE x).2 a;have h2:=zRB b;grind
  . rw [a,eu b] at h;exact absurd h dE
  . rw [a,b] at h;exact absurd h dE
  . have e:=fG.1 a;have h2:=zRB b;grind
  . rw [eI a,eu b] at h;omega
  . rw [eI a,b] at h;exact absurd h dE
  . rw [eI a,eI b] at h;omega
 exact cD this
theorem cmp_gt (h:y.num.sign<x.num.sign):rcmpI x y=1:=by
 have e:=zTi h;unfold rcmpI at e ⊢;split at e
 . rename_i a;rw [ct gR,ct gR]
 . split at e<;>exact absurd e dE
theorem cmp_res {c:Int} (h:x.num.sign=y.num.sign) (G:x.num.sign≠0) (z:c = -1\/c=0\/c=1) (H:CmpIs c (x.num.natAbs*y.den) (y.num.natAbs*x.den)):IntKind.i64.wrap (x.num.sign*c)=rcmpI x y:=by
 have F:x.num.sign*c=rcmpI x y:=by
  refine zNT ?_;obtain ⟨C,D⟩:=H;have e1:x.num*(y.den:Int)=x.num.sign*((x.num.natAbs*y.den:Nat):Int):=by
   rw [gj,<- Int.mul_assoc,Int.sign_mul_natAbs]
  have I:y.num*(x.den:Int)=x.num.sign*((y.num.natAbs*x.den:Nat):Int):=by
   rw [h,gj,<- Int.mul_assoc,Int.sign_mul_natAbs]
  rw [e1,I];rcases sign3 x with s | s | s
  . rw [s];rcases z with rfl | rfl | rfl
    . exact .inl ⟨by have:=C.1 dE;omega,dE⟩
    . exact .inr (.inl ⟨by have:=D.1 rfl;omega,dE⟩)
    . exact .inr (.inr ⟨by have J:¬ _:=fun e=>absurd (C.2 e) dE;have L:¬ _:=fun e=>absurd (D.2 e) dE;omega,dE⟩)
  . rw [s];rcases z with rfl | rfl | rfl
    . exact .inr (.inr ⟨by have:=C.1 dE;omega,dE⟩)
    . exact .inr (.inl ⟨by have:=D.1 rfl;omega,dE⟩)
    . exact .inl ⟨by have J:¬ _:=fun e=>absurd (C.2 e) dE;have L:¬ _:=fun e=>absurd (D.2 e) dE;omega,dE⟩
  . exact absurd s G
 rw [F];unfold rcmpI;split
 . rfl
 . split<;>rfl
theorem cmp_zero (h:x.num.sign=y.num.sign) (e:x.num.sign=0):rcmpI x y=0:=by
 have s:=fG.1 (fU.1 e);have h2:=fG.1 (fU.1 (h ▸ e));rw [s,h2];rfl
theorem zEI (V:IsR w u x) (X:IsR w v y) (Y:Room x y):Ret prog 182 #[u,v] w (fun r _=>r = .int .i64 (rcmpI x y)):=by
 have I:=Y.roomy;obtain ⟨xn,xd,rfl,C,s⟩:=V;obtain ⟨yn,yd,rfl,D,z⟩:=X;refine J0 32 func182 rfl (rj ?_);refine K1 (zn (Z4 E0 C.ext s.ext D.ext z.ext fun b1 w1 E0 C s D z hgb1 h => ?_));refine K1 (zn (Z5a E0 C.ext s.ext D.ext z.ext h.ext h.lt fun b2 w2 E0 C s D z h hgb2 ne_b1_b2 F=>ag (rM 12 ?_)));refine zA (rj (K1 (zB zBL rfl (K1 (zD zAT rfl h rfl (K1 (zB zBL rfl (K1 (zD zAT rfl F rfl (K8 rfl (rM 524 ?_)))))))))));refine K0 rfl ?_ ?_<;>intro G
 . have L:x.num.sign<y.num.sign:=dh G;refine rj (ag (rm [4] ?_));exact zE (zU (en rfl E0 (cW (Value.int .i64) (zTi L).symm)))
 . have Z:¬ x.num.sign<y.num.sign:=de G;refine sk (zA (rj (K1 (zB zBL rfl (K1 (zD zAT rfl h rfl (K1 (zB zBL rfl (K1 (zD zAT rfl F rfl (K8 rfl (rM 16396 ?_))))))))))));refine K0 rfl ?_ ?_<;>intro G
   . have M:x.num.sign>y.num.sign:=dh G;refine rj (ag (rm [4] ?_));exact zE (zU (en rfl E0 (cW (Value.int .i64) (cmp_gt M).symm)))
   . have aa:¬ x.num.sign>y.num.sign:=de G;have H:x.num.sign=y.num.sign:=by omega
     refine sk (zA (rj (K1 (zB zBL rfl (K1 (zD zAT rfl h rfl (K8 rfl (rM 131084 ?_))))))));refine K0 rfl ?_ ?_<;>intro G
     . have J:x.num.sign=0:=ge.1 G;refine rj (ag (rm [4] ?_));exact zE (zU (en rfl E0 (cW (Value.int .i64) (cmp_zero H J).symm)))
     . have J:x.num.sign≠0:=dk.1 G;clear G;have hxz:x≠0:=fun e=>J (by rw [e];rfl);have hyz:y≠0:=fun e=>J (by rw [H,e];rfl);rw [ct hxz] at s;rw [ct hyz] at z;refine sk (zA (zAR none 14 [[4],[1],[4],[1],[6],[1],[5,1],[6],[1],[4],[1],[5,1],[11,1],[23,1]] mixed kR fun K hK=>du (fun hE hk=>zB zBL hk.1 eR) (du (fun hE hk=>zD zAT hk.1 (h.ext hE) rfl eR) (du (fun hE hk=>zB zEf hk.1 eR) (du (fun hE hk=>zD zAi hk.1 (h.ext hE) rfl eR) (du (fun hE hk=>zB zCL hk.1 eR) (du (fun hE hk=>zD zAi hk.1 (F.ext hE) rfl eR) (dl (fun hE hk=>zCX (IsN.of_eq hk.1 (C.ext hE)) (IsN.of_eq hk.2.1 (z.ext hE)) I.xn I.yd) (du (fun hE hk=>zB zEf hk.1 eR) (du (fun hE hk=>zD zAi hk.1 (F.ext hE) rfl eR) (du (fun hE hk=>zB zCL hk.1 eR) (du (fun hE hk=>zD zAi hk.1 (h.ext hE) rfl eR) ?_))))))))))));refine dl (fun hE hk=>zCX (IsN.of_eq hk.1 (D.ext hE)) (IsN.of_eq hk.2.1 (s.ext hE)) I.yn I.xd) (dl (fun hE hk=>zOl hk.1 hk.2.1 I.nd.fit I.nd'.fit) ?_);refine du (u := .int .i64 (rcmpI x y)) (fun hE hk=>(by obtain ⟨c,e,N,G⟩:=hk.2.1;exact zC hk.1 e rfl ⟨Ext.refl _,cW (Value.int .i64) (cmp_res H J N G)⟩)) ?_;refine zAJ (hK _ fun wq hE => ?_)
       rintro _ rfl _ rfl _ rfl _ rfl _ rfl _ rfl ad ae _ rfl _ rfl _ rfl _ rfl ah ai aj ak al U;refine zY ?_;obtain ⟨E0,C,s,D,z,h,F⟩:=V6 hE E0 C.ext s.ext D.ext z.ext h.ext F.ext;refine ag (zAh (zK (K5 [4] ?_)));exact zE (en rfl E0 U)
def maxR (x y:Rat):Rat:=if y<=x then x else y
theorem rcmp_ge (x y:Rat):decide (rcmpI x y≥0)=decide (y<=x):=by
 unfold rcmpI;by_cases h:x<y
 . rw [cD h,cU dE,cU gR]
 . rw [ct h];have e:y<=x:=Rat.not_lt.1 h;rw [cZ e];split<;>rfl
theorem zTZ (e:IsR w u x) (h:IsR w v y) (I:Room x y):Ret prog 86 #[u,v] w (fun r w'=>IsR w' r (maxR x y)):=by
 obtain ⟨U,V,D,J,L⟩:=id e;obtain ⟨X,Y,F,M,N⟩:=id h;subst D;subst F;refine J0 11 func86 rfl (rj ?_);refine K1 (zn (Z2 E0 e.ext h.ext fun b1 w1 E0 e h hgb1 hB1 => ?_));refine K1 (zn (Z3a E0 e.ext h.ext hB1.ext hB1.lt fun b2 w2 E0 e h hB1 hgb2 ne_b1_b2 hB2 => ?_));refine K1 (zR zero50 (Z4b E0 e.ext h.ext hB1.ext hB2.ext hB1.lt hB2.lt fun b3 w3 E0 e h hB1 hB2 hgb3 ne_b1_b3 ne_b2_b3 hB3=>rM 28 ?_));refine zA (rj (K1 (zh zAS rfl hB1 (cw rfl) (K1 (zh zAS rfl hB2 (cw rfl) (K1 (j5 E0 e.ext h.ext hB1.ext hB2.ext hB3.ext yB (zEI e h I) fun vc w2 E0 e h hB1 hB2 hB3 hrc => ?_)))))));subst hrc;refine K1 (zC (v := .bool (decide (y<=x))) rfl rfl (sB (rcmp_ge x y)) (rM 284 ?_));refine K0 rfl ?_ ?_<;>intro hc
 . have G:y<=x:=dh hc;refine rj (K1 (zh zAS rfl hB1 (cw rfl) (K1 (runs_rstoreK rfl e (Cell3.of hB3 rfl) fun _ w9 hU hN => ?_))));replace E0:=E0.upd hU hgb3;obtain ⟨cs,s,z,C⟩:=hN;refine rm [4] ?_;refine zE (zU (zM ?_));exact ⟨rfl,_,zq rfl rfl rfl zAS s z,E0,by rw [show maxR x y=x from cD G];exact C⟩
 . have H:¬ y<=x:=de hc;refine sk (rj (K1 (zh zAS rfl hB2 (cw rfl) (K1 (runs_rstoreK rfl h (Cell3.of hB3 rfl) fun _ w9 hU hN => ?_)))));replace E0:=E0.upd hU hgb3;obtain ⟨cs,s,z,C⟩:=hN;refine rm [4] ?_;refine zE (zM ?_);exact ⟨rfl,_,zq rfl rfl rfl zAS s z,E0,by rw [show maxR x y=y from ct H];exact C⟩
end Go.Proofs.YtjiendlfobjanaaGreatDoor.R
