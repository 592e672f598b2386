/-
  A part of the proof: Siegel, Sturm, Gauss, SizeP, SizeP2, SturmC, Has, W1, W2, W3, W4, W5, Shelf, W6, Uint, DivNat, Sint, W7, W8, W9, DivBig, W10, W11, W12, Num, W13.
-/
import Derived.Test.YtjiendlfobjanaaGreatDoorH01
import Derived.Ground.Names2Prog
import Derived.Laws.Externs
import Derived.Lib.ItoaNum
import Derived.Shelf.Bits.Mul64
import Derived.Shelf.LaysM
import Derived.Shelf.Slices.Cells
import Derived.Shelf.Slices.ReverseS
import Derived.Shelf.Slices.SearchI
import Derived.Shelf.Small.Bits
import Derived.Shelf.Small.Strs
import Derived.Shelf.Small.Utf8
import Derived.Shelf.Small.Wraps
import Derived.Shelf.Spec.BitsCarry
import Derived.Shelf.Strconv.Itoa0
import Derived.Shelf.Strconv.Itoa1
import Derived.Shelf.Strconv.Itoa2
import Derived.Shelf.Strings.AsciiSet
import Derived.Shelf.Strings.Builder1
import Derived.Shelf.Strings.Builder2
import Derived.Shelf.Strings.Builder2Cap
import Derived.Shelf.Strings.BuilderCap
import Derived.Shelf.Strings.BuilderF
import Derived.Shelf.Strings.BuilderK
import Derived.Shelf.Strings.Cut
import Derived.Shelf.Strings.OnBuilder
import Derived.Shelf.Strings.Prefix
import Derived.Shelf.Strings.Repeat
import Derived.Shelf.Strings.Runes
import Derived.Shelf.Strings.Search1
import Derived.Shelf.Strings.Search2
import Derived.Shelf.Strings.Shaped
import Derived.Shelf.Strings.Trim
import Derived.Shelf.Unicode.Decode
import Derived.Shelf.Unicode.DecodeAny
import Derived.Shelf.Unicode.DecodeLast
import Derived.Shelf.Unicode.DecodeSlow
import Derived.Test.YtjiendlfobjanaaGreatDoorProg
namespace Go.Proofs.YtjiendlfobjanaaGreatDoor
variable {D:Int} {Q p q:Poly} {a n:Nat}
theorem zTy:∀ (b a:Nat) (f:Nat->Nat),b<a->(∀ i,i<a->f i<b)->∃ i j,i<j/\j<a/\f i=f j
 | 0,a,f,h,z=>absurd (z 0 h) oM
 | b+1,0,f,h,z=>absurd h oM
 | b+1,a+1,f,h,z=>by
  by_cases e:∃ i,i<a/\f i=f a
  . obtain ⟨i,h1,C⟩:=e;exact ⟨i,a,h1,oM,C⟩
  . have l:∀ i,i<a->f i≠f a:=fun i hi he=>e ⟨i,hi,he⟩;obtain ⟨i,j,h1,C,A⟩:=zTy b a (fun i=>if f i<f a then f i else f i-1) oM fun i hi=>by
     have:=z i oM;have:=z a oM;have:=l i hi;show (if f i<f a then f i else f i-1)<b;split<;>omega
    have n1:=l i oM;have n2:=l j C;have A:(if f i<f a then f i else f i-1)=(if f j<f a then f j else f j-1):=A;refine ⟨i,j,h1,oM,?_⟩;split at A<;>split at A<;>omega
def dig (B c i:Nat):Nat:=c/B^i%B
theorem dig_S (B c i:Nat):dig B c (i+1)=dig B (c/B) i:=by
 unfold dig;rw [dB,dm,<- fX]
theorem zSN {B:Nat} (z:0<B):∀ (n c l:Nat),c<B^n->l<B^n->(∀ i,i<n->dig B c i=dig B l i)->c=l
 | 0,c,l,h,A,_=>by simp at h A;omega
 | n+1,c,l,h,A,C=>by
  have h0:=C 0 oM;have h1:=zSN z n (c/B) (l/B) (by rw [gp z,<- dB];exact h) (by rw [gp z,<- dB];exact A) fun i hi=>by rw [<- dig_S,<- dig_S];exact C (i+1) oM
  unfold dig at h0;rw [Nat.pow_zero,fI,fI] at h0;rw [<- fZ c B,<- fZ l B,h1,h0]
def enc (Y:Nat):Nat->(Nat->Nat)->Nat
 | 0,_=>0
 | m+1,f=>f 0+Y*enc Y m fun k=>f (k+1)
theorem zTn {Y:Nat}:∀ (m:Nat) (f:Nat->Nat),(∀ k,k<m->f k<Y)->enc Y m f<Y^m
 | 0,f,_=>by simp [enc]
 | m+1,f,h=>by
  have h1:=zTn m (fun k=>f (k+1)) fun k hk=>h (k+1) oM;have h2:=h 0 oM;have h3:=dy Y (show enc Y m (fun k=>f (k+1))+1<=Y^m from h1);rw [dV,fT] at h3;rw [enc,dB,dm (Y^m)];omega
theorem zSW {Y:Nat}:∀ (m:Nat) (f g:Nat->Nat),(∀ k,k<m->f k<Y)->(∀ k,k<m->g k<Y)->enc Y m f=enc Y m g->∀ k,k<m->f k=g k
 | 0,f,g,_,_,_,k,l=>absurd l oM
 | m+1,f,g,z,A,h,k,l=>by
  rw [enc,enc] at h;have f0:=z 0 oM;have g0:=A 0 oM;have h1:f 0=g 0:=by
   have:=cW (· % Y) h
   simp only [Nat.add_mul_mod_self_left] at this;rwa [fL f0,fL g0] at this
  have C:enc Y m (fun k=>f (k+1))=enc Y m fun k=>g (k+1):=Nat.eq_of_mul_eq_mul_left (oM:0<Y) oM;cases k with
  | zero=>exact h1
  | succ k=>exact zSW m _ _ (fun k l=>z (k+1) oM) (fun k l=>A (k+1) oM) C k oM
def sumI:Nat->(Nat->Int)->Int
 | 0,_=>0
 | n+1,f=>f 0+sumI n fun k=>f (k+1)
theorem zQE {C:Nat}:∀ (n:Nat) (f:Nat->Int),(∀ i,i<n->(f i).natAbs<=C)->(sumI n f).natAbs<=n*C
 | 0,f,_=>by simp [sumI]
 | n+1,f,h=>by
  have h1:=zQE n (fun k=>f (k+1)) fun i hi=>h (i+1) oM;have h2:=h 0 oM;rw [sumI,eF,eG];omega
theorem zRi:∀ (n:Nat) (a x y:Nat->Int),sumI n (fun i=>a i*(x i-y i))=sumI n (fun i=>a i*x i)-sumI n fun i=>a i*y i
 | 0,_,_,_=>rfl
 | n+1,a,x,y=>by
  rw [sumI,sumI,sumI,zRi n (fun k=>a (k+1)) (fun k=>x (k+1)) fun k=>y (k+1),Int.mul_sub];omega
theorem siegel (M H:Nat) (E:1<=H) (a:Nat->Nat->Int) (F:∀ k i,(a k i).natAbs<=H) :
 ∃ x:Nat->Int,(∃ i,i<M+1/\x i≠0)/\(∀ i,(x i).natAbs<=(2*(M+1)*H)^M)/\∀ k,k<M->sumI (M+1) (fun i=>a k i*x i)=0:=by
 generalize I:2*(M+1)*H=C;generalize hX:C^M=X;have hC1:1<=C:=by
  have:=fs (oM:1<=2*(M+1)) E;omega
 have dl:∀ c i,dig (X+1) c i<=X:=fun c i=>by
  have:=eE (c/(X+1)^i) (oM:X+1>0);unfold dig;omega
 have z:∀ k c i,(a k i*(dig (X+1) c i:Int)).natAbs<=H*X:=fun k c i=>by
  rw [ey];exact fs (F k i) (by have:=dl c i;omega)
 have A:∀ k c,(sumI (M+1) fun i=>a k i*(dig (X+1) c i:Int)).natAbs<=(M+1)*(H*X):=fun k c=>zQE (M+1) _ fun i _=>z k c i;have hCX:2*((M+1)*(H*X))=C*X:=by rw [<- I,dt,dt]
 have l:∀ k c,((sumI (M+1) fun i=>a k i*(dig (X+1) c i:Int))+((M+1)*(H*X):Nat)).toNat<C*(X+1):=fun k c=>by
  have:=A k c;rw [dV,fT];omega
 obtain ⟨i,j,ad,J,he⟩:=zTy ((C*(X+1))^M) ((X+1)^(M+1)) (fun c=>enc (C*(X+1)) M fun k=>((sumI (M+1) fun i=>a k i*(dig (X+1) c i:Int))+((M+1)*(H*X):Nat)).toNat)
  (by
   rw [Nat.mul_pow,hX,dB,dm];exact Nat.mul_lt_mul_of_pos_left oM (eq oM))
  fun c _=>zTn M _ fun k _=>l k c
 refine ⟨fun t=>(dig (X+1) j t:Int)-(dig (X+1) i t:Int),?_,fun t => ?_,fun k Z => ?_⟩
 . refine fH fun hn => ?_;have:i=j:=zSN (oM:0<X+1) (M+1) i j oM J fun t ht=>by
    have:¬ (dig (X+1) j t:Int)-(dig (X+1) i t:Int)≠0:=fun h=>hn ⟨t,ht,h⟩;omega
   omega
 . have:=dl j t;have:=dl i t;show ((dig (X+1) j t:Int)-(dig (X+1) i t:Int)).natAbs<=X;omega
 . rw [zRi];have h1:=zSW M _ _ (fun k _=>l k i) (fun k _=>l k j) he k Z;have:=A k i;have:=A k j;omega
theorem zKK (q:Poly):∀ (p:Poly) (k:Nat),p.length+q.length<=k+1->conv p q k=0
 | [],k,_=>zDt q k
 | a :: p,0,h=>by
  simp at h;obtain rfl:q=[]:=zAd oM;rw [zEc,zAa,ed]
 | a :: p,k+1,h=>by
  simp at h;rw [zDe,zKK q p k oM,co_ge oM,ed,eD]
theorem zMr (q:Poly):∀ (p:Poly) (m n:Nat),p.length=m+1->q.length=n+1->conv p q (m+n)=co p m*co q n
 | [],m,n,h,_=>by simp at h
 | [a],m,n,h,z=>by
  obtain rfl:m=0:=by simpa using h
  cases n with
  | zero=>rw [zEc];rfl
  | succ n=>rw [dW,zDe,zDt,eD];rfl
 | a :: b :: p,m,n,h,z=>by
  obtain ⟨m,rfl⟩:∃ k,m=k+1:=⟨m-1,by simp at h;omega⟩;rw [show m+1+n=(m+n)+1 by omega,zDe,zMr q (b :: p) m n (by simpa using h) z,co_ge (l:=q) oM,ed,gs,zAF]
theorem ev_co (h:∀ x,ev p x=ev q x) (k:Nat):co p k=co q k:=by
 rw [<- zAU p,<- zAU q,ev_inj (ze p) (ze q) (u:=0) (v:=1) dE fun x _ _=>by rw [zDm,zDm,h]]
theorem trim_len_le (h:∀ k,n<=k->co p k=0):(trim p).length<=n:=zAr (ze p) fun i hi=>by rw [zAU];exact h i hi
theorem zFm (h:(trim p).length=0) (x:Rat):ev p x=0:=by rw [<- zDm,zAd h];rfl
theorem zQc {u b r:Poly} (C:Trimd b) (l:b≠[]) (h:∀ x,ev r x=ev u x*ev b x) (E:∀ k,n<=k->co r k=0):(∀ x,ev u x=0)\/(trim u).length+b.length<=n+1:=by
 by_cases e:(trim u).length=0
 . exact .inl (zFm e)
 . refine .inr ?_;have F:=zz l;obtain ⟨m,z⟩:∃ m,(trim u).length=m+1:=⟨(trim u).length-1,oM⟩;obtain ⟨t,A⟩:∃ t,b.length=t+1:=⟨b.length-1,oM⟩;rcases dR (m+t) n with hl | hl
   . omega
   . have h1:=E _ hl;rw [ev_co (q:=prod (trim u) b) (fun x=>by rw [h,zAY,zDm]) (m+t),zCp,zMr b (trim u) m t z A] at h1;have:=ze u m z;have:=C t A;grind
def Rem (a b e:Poly):Prop:=∃ (q:Poly) (t:Rat),t≠0/\(∀ x,ev a x=ev q x*ev b x+t*ev e x)/\e.length<b.length/\Trimd b/\b≠[]
inductive Euc:Poly->Poly->Poly->Poly->Prop
 | one {a b e:Poly}:Rem a b e->Euc a b b e
 | step {a b f c e:Poly}:Rem a b f->Euc b f c e->Euc a b c e
theorem Euc.len {a b c e:Poly} (h:Euc a b c e):c.length<=b.length/\e.length<c.length/\c≠[]:=by
 induction h with
 | one h=>obtain ⟨q,t,h1,z,l,E,A⟩:=h;exact ⟨cX _,l,A⟩
 | step h _ C=>obtain ⟨q,t,h1,z,l,_⟩:=h;exact ⟨oM,C.2⟩
theorem Euc.snoc {a b c e f:Poly} (h:Euc a b c e) (l:Rem c e f):Euc a b e f:=by
 induction h with
 | one h=>exact .step h (.one l)
 | step h _ z=>exact .step h (z l)
theorem euc_uniq {a b c e:Poly} (h:Euc a b c e) (he:∃ x,ev e x≠0):∀ {u v w:Poly},u.length+c.length<=b.length+1->(∀ x,ev w x=ev u x*ev a x+ev v x*ev b x)->(∀ k,c.length<=k+1->co w k=0) ->
 ∃ m,(∀ x,ev w x=m*ev e x)/\(m=0->∀ x,ev u x=0/\ev v x=0):=by
 induction h with
 | @one a b e I =>
  intro u v w E C F;obtain ⟨q,t,ht,h1,h2,J,H⟩:=I;have hbl:=zz H;have hu0:∀ x,ev u x=co u 0:=fun x=>by
   match u,E with
   | [],_=>rfl
   | [z],_=>show z+x*0=z;grind
   | _ :: _ :: _,E=>simp at E;omega
  have A:∀ x,ev (addl (q.map (· * co u 0)) v) x=0:=by
   have M:∀ x,ev (addl w (e.map (· * (-(co u 0*t))))) x=ev (addl (q.map (· * co u 0)) v) x*ev b x:=fun x=>by
    rw [zBI,zBK,zBI,zBK,C,hu0,h1];grind
   rcases zQc (n:=b.length-1) J H M fun k hk'=>by
    rw [zEz,zBf,F k oM,co_ge (l:=e) oM,dO,eD] with h | h
   . exact h
   . exact zFm oM
  have A:∀ x,ev q x*co u 0+ev v x=0:=fun x=>by have:=A x;rwa [zBI,zBK] at this
  refine ⟨co u 0*t,fun x => ?_,fun hm x => ?_⟩
  . have:=A x;rw [C,hu0,h1];grind
  . have h0:co u 0=0:=by grind
    have:=A x;rw [hu0,h0];rw [h0] at this;exact ⟨rfl,gR⟩
 | @step a b f c e I hE ih =>
  intro u v w E C F;obtain ⟨q,t,ht,h1,h2,J,H⟩:=I;have hl:=hE.len;have hcl:=zz hl.2.2;have M:∀ x,ev (addl w (prod (u.map (· * (-t))) f)) x=ev (addl (prod u q) v) x*ev b x:=fun x=>by
   rw [zBI,zAY,zBK,zBI,zAY,C,h1];grind
  have Z:=zQc (n:=b.length+f.length-c.length) J H M fun k hk'=>by
   rw [zEz,zCp,F k oM,zKK _ _ _ (by rw [dJ];omega),eD]
  have Z:(trim (addl (prod u q) v)).length+c.length<=f.length+1:=by
   rcases Z with h | h
   . have:(trim (addl (prod u q) v)).length<=0:=trim_len_le fun k _=>by
      have:=ev_co (p:=addl (prod u q) v) (q:=[]) (fun x=>by rw [h];rfl) k;rw [this];rfl
     omega
   . omega
  obtain ⟨m,m1,m2⟩:=ih he (u:=trim (addl (prod u q) v)) (v:=u.map (· * t)) (w:=w) Z (fun x=>by
   rw [zDm,zBI,zAY,zBK,C,h1];grind) F
  refine ⟨m,m1,fun hm x => ?_⟩;obtain ⟨k1,k2⟩:=m2 hm x;rw [zBK] at k2;rw [zDm,zBI,zAY] at k1;have:ev u x=0:=gR
  exact ⟨this,by rw [this] at k1;grind⟩
def mkL:Nat->(Nat->Int)->Poly
 | 0,_=>[]
 | n+1,f=>(f 0:Rat) :: mkL n fun k=>f (k+1)
theorem zFr:∀ (n:Nat) (f:Nat->Int),(mkL n f).length=n
 | 0,_=>rfl
 | n+1,f=>by rw [mkL,et,zFr n]
theorem zJO:∀ (n:Nat) (f:Nat->Int) (i:Nat),i<n->co (mkL n f) i=f i
 | 0,_,i,h=>absurd h oM
 | n+1,f,0,_=>rfl
 | n+1,f,i+1,h=>by rw [mkL,zAF];exact zJO n (fun k=>f (k+1)) i oM
theorem zPL:∀ n:Nat,(sumI n fun _=>0)=0
 | 0=>rfl
 | n+1=>by rw [sumI,zPL n];rfl
theorem zHB:∀ (n:Nat) (f g:Nat->Int),(∀ i,i<n->f i=g i)->sumI n f=sumI n g
 | 0,_,_,_=>rfl
 | n+1,f,g,h=>by rw [sumI,sumI,h 0 oM,zHB n (fun k=>f (k+1)) (fun k=>g (k+1)) fun i hi=>h (i+1) oM]
theorem zRg:∀ (m n:Nat) (f:Nat->Int),sumI (m+n) f=sumI m f+sumI n fun j=>f (m+j)
 | 0,n,f=>by rw [dW,sumI];simp
 | m+1,n,f=>by
  rw [show m+1+n=(m+n)+1 by omega,sumI,sumI,zRg m n fun k=>f (k+1)];rw [show (fun j=>f (m+j+1))=fun j=>f (m+1+j) from funext fun j=>by congr 1;omega];omega
theorem zMq {P:Poly} {D:Int} {z:Nat->Int} (h:∀ k,co P k*D=z k):∀ (n:Nat) (f:Nat->Int) (t:Nat),conv (mkL n f) P t*D=(sumI n fun i=>(if i<=t then z (t-i) else 0)*f i:Int)
 | 0,f,t=>by rw [mkL,zDt,dO];rfl
 | n+1,f,0=>by
  rw [mkL,zEc,sumI,Rat.mul_assoc,h 0,cD (cX _),show (fun i=>(if i+1<=0 then z (0-(i+1)) else 0)*f (i+1))=fun _=>(0:Int) from funext fun i=>by rw [ct oM,Int.zero_mul],zPL,Int.add_zero,Int.mul_comm,dH]
 | n+1,f,t+1=>by
  rw [mkL,zDe,sumI,Rat.add_mul,zMq h n (fun k=>f (k+1)) t,Rat.mul_assoc,h,cD (di _),Nat.sub_zero,Rat.intCast_add,dH,Rat.mul_comm (f 0:Rat)];rw [show (fun i=>(if i+1<=t+1 then z (t+1-(i+1)) else 0)*f (i+1))=fun i=>(if i<=t then z (t-i) else 0)*f (i+1) from funext fun i=>by
   by_cases e:i<=t
   . rw [cD e,cD oM,Nat.add_sub_add_right]
   . rw [ct e,ct oM]]
theorem zMp (s:Rat) (q:Poly):∀ (p:Poly) (k:Nat),conv (p.map (· * s)) q k=conv p q k*s
 | [],k=>by rw [il,zDt,dO]
 | a :: p,0=>by rw [fi,zEc,zEc];grind
 | a :: p,k+1=>by rw [fi,zDe,zDe,zMp s q p k];grind
theorem zGF {P:Poly} (h:CHD a D P):∃ z:Nat->Int,(∀ k,co P k*D=z k)/\∀ k,2*(z k).natAbs<=2^a :=
 ⟨fun k=>Classical.choose (h.2.2 k),fun k=>(Classical.choose_spec (h.2.2 k)).1,fun k=>(Classical.choose_spec (h.2.2 k)).2⟩
theorem zPi {P c e:Poly} (hE:Euc P Q c e) (he:e≠[]) (J:Trimd e) (H:CH a P) (I:CH a Q) (hl:P.length+Q.length<=256) :
 ∃ (w:Nat->Int) (m:Rat),m≠0/\(∀ k,co e k*m=w k)/\∀ k,2*(w k).natAbs<=2^((P.length+Q.length)*(a+9)):=by
 obtain ⟨D,H⟩:=H;obtain ⟨E,I⟩:=I;obtain ⟨zP,p1,p2⟩:=zGF H;obtain ⟨F,q1,q2⟩:=zGF I;have hD:=zCy H.1;have hE':=zCy I.1;obtain ⟨l1,l2,l3⟩:=hE.len;have lc:=zz l3;have hpos:0<2^a:=iy a
 -- the unknowns
 generalize au:Q.length+1-c.length=l;generalize hNv:P.length+1-c.length=A;generalize hM:l+A-1=M;have hN:l+A=M+1:=oM
 obtain ⟨x,⟨C,av,Z⟩,xb,xe⟩:=siegel M (2^a) hpos (fun k i=>if i<l then (if i<=c.length-1+k then zP (c.length-1+k-i) else 0) else (if i-l<=c.length-1+k then F (c.length-1+k-(i-l)) else 0)) fun k i=>by
  have h1:=p2 (c.length-1+k-i);have h2:=q2 (c.length-1+k-(i-l));split<;>split<;>first | omega | (show (0:Int).natAbs<=_;simp)
 have z:∀ t,sumI (M+1) (fun i=>(if i<l then (if i<=t then zP (t-i) else 0) else (if i-l<=t then F (t-(i-l)) else 0))*x i) =
  sumI l (fun i=>(if i<=t then zP (t-i) else 0)*x i)+sumI A fun j=>(if j<=t then F (t-j) else 0)*x (l+j):=fun t=>by
  rw [<- hN,zRg];congr 1
  . exact zHB _ _ _ fun i hi=>by rw [cD hi]
  . exact zHB _ _ _ fun j hj=>by rw [ct oM,Nat.add_sub_cancel_left]
 have hw:∀ t,co (addl (prod ((mkL l x).map (· * (D:Rat))) P) (prod ((mkL A fun j=>x (l+j)).map (· * (E:Rat))) Q)) t=(sumI (M+1) (fun i=>(if i<l then (if i<=t then zP (t-i) else 0) else (if i-l<=t then F (t-(i-l)) else 0))*x i):Int):=fun t=>by
  rw [zEz,zCp,zCp,zMp,zMp,zMq p1,zMq q1,z,Rat.intCast_add]
 obtain ⟨m,m1,m2⟩:=euc_uniq hE (he:=by
  obtain ⟨y,_,_,hy⟩:=zIC J he (u:=0) (v:=1) dE;exact ⟨y,hy⟩) (u:=(mkL l x).map (· * (D:Rat))) (v:=(mkL A fun j=>x (l+j)).map (· * (E:Rat))) (w:=addl (prod ((mkL l x).map (· * (D:Rat))) P) (prod ((mkL A fun j=>x (l+j)).map (· * (E:Rat))) Q))
  (by rw [dJ,zFr];omega) (fun y=>by rw [zBI,zAY,zAY]) fun k hk=>by
   rcases dR (k-(c.length-1)) M with h | h
   . have:=xe _ h;rw [show c.length-1+(k-(c.length-1))=k by omega] at this;rw [hw,this];rfl
   . rw [zEz,zCp,zCp,zKK _ _ _ (by rw [dJ,zFr];omega),zKK _ _ _ (by rw [dJ,zFr];omega),eD]
 have hm:m≠0:=fun e0=>Z (by
  have h:=m2 e0;rcases dR C l with hlt | hge
  . have h1:=ev_co (p:=(mkL l x).map (· * (D:Rat))) (q:=[]) (fun y=>(h y).1) C
    rw [zBf,zJO _ _ _ hlt,zAa] at h1;have h1:(x C:Rat)=0:=gR
    exact_mod_cast h1
  . have h1:=ev_co (p:=(mkL A fun j=>x (l+j)).map (· * (E:Rat))) (q:=[]) (fun y=>(h y).2) (C-l)
    rw [zBf,zJO _ _ _ oM,zAa,show l+(C-l)=C by omega] at h1;have h1:(x C:Rat)=0:=gR
    exact_mod_cast h1)
 refine ⟨fun t=>sumI (M+1) (fun i=>(if i<l then (if i<=t then zP (t-i) else 0) else (if i-l<=t then F (t-(i-l)) else 0))*x i),m,hm,fun k => ?_,fun k => ?_⟩
 . rw [<- hw];have h:=ev_co (q:=e.map (· * m)) (fun y=>(m1 y).trans (by rw [zBK,Rat.mul_comm])) k
   rw [zBf] at h;exact h.symm
 . have hb:∀ i,((if i<l then (if i<=k then zP (k-i) else 0) else (if i-l<=k then F (k-(i-l)) else 0))*x i).natAbs<=2^a*(2*(M+1)*2^a)^M:=fun i=>by
    rw [ey];refine fs ?_ (xb i);have h1:=p2 (k-i);have h2:=q2 (k-(i-l));split<;>split<;>first | omega | (show (0:Int).natAbs<=_;simp)
   have h1:=zQE (M+1) _ fun i _=>hb i;have h2:2*((M+1)*(2^a*(2*(M+1)*2^a)^M))=(2*(M+1)*2^a)^(M+1):=by
    rw [dB,dm (_^M),<- dt,<- dt]
   have h3:(2*(M+1)*2^a)^(M+1)<=(2^(a+9))^(M+1):=gB (by
    rw [eM,dm (2^a)];exact dx _ oM) _
   have h4:(2^(a+9))^(M+1)<=2^((P.length+Q.length)*(a+9)):=by
    rw [<- gL,dm];exact dw oM (dx _ oM)
   refine dz (dz ?_ h3) h4;rw [<- h2];exact dy 2 h1
theorem euc_ch {P c e:Poly} (H:Euc P Q c e) (E:Trimd e) (h1:e=[]\/co e (e.length-1)=1\/co e (e.length-1) = -1) (I:CH a P) (J:CH a Q) (M:P.length+Q.length<=256):CH ((P.length+Q.length)*(a+9)+1) e:=by
 by_cases he:e=[]
 . subst he;exact ⟨1,CHD.nil dE (by rw [dB];have:=iy ((P.length+Q.length)*(a+9));show 2*1<=_;omega) fun k=>rfl⟩
 . have h1:=h1.resolve_left he;obtain ⟨w,m,Z,A,C⟩:=zPi H he E I J M;have l:2^((P.length+Q.length)*(a+9))<=2^((P.length+Q.length)*(a+9)+1):=dw oM oM;have z:=A (e.length-1);have F:w (e.length-1)≠0:=fun h=>by
    rw [h] at z;have z:co e (e.length-1)*m=0:=z;rcases h1 with h | h<;>rw [h] at z<;>grind
   refine ⟨w (e.length-1),F,dz (C _) l,fun k => ?_⟩;rcases h1 with h | h
   . refine ⟨w k,?_,dz (C k) l⟩;rw [<- A k,<- z,h];grind
   . refine ⟨-(w k),?_,by rw [fx];exact dz (C k) l⟩;rw [fQ,<- A k,<- z,h];grind
variable {G f1 h0 h1:Rat->Rat} {x y:Rat}
def Bd (A x:Rat):Prop := -A<=x/\x<=A
theorem Bd.mul {A B:Rat} (h:Bd A x) (k:Bd B y):Bd (A*B) (x*y):=by
 obtain ⟨h1,l⟩:=h;obtain ⟨z,C⟩:=k;have a:=dX (gR:0<=A-x) (gR:0<=B+y);have b:=dX (gR:0<=A+x) (gR:0<=B-y);have c:=dX (gR:0<=A-x) (gR:0<=B-y);have d:=dX (gR:0<=A+x) (gR:0<=B+y);constructor<;>grind
theorem Bd.add {A B:Rat} (h:Bd A x) (k:Bd B y):Bd (A+B) (x+y):=⟨by have:=h.1;have:=k.1;grind,by have:=h.2;have:=k.2;grind⟩
theorem Bd.le {A B:Rat} (h:Bd A x) (k:A<=B):Bd B x:=⟨by have:=h.1;grind,by have:=h.2;grind⟩
def Sm (R:Rat) (f:Rat->Rat):Prop:=∃ M,0<M/\∀ x,Bd R x->Bd M (f x)/\∀ y,Bd R y->∃ d,Bd M d/\f y-f x=(y-x)*d
theorem zNS (a:Rat):Bd (rabs a) a:=by
 unfold rabs Bd;split<;>constructor<;>grind
theorem zIq (a:Rat):0<=rabs a:=by
 unfold rabs;split<;>grind
theorem Sm.const (R a:Rat):Sm R (fun _=>a):=⟨rabs a+1,by have:=zIq a;grind,fun x _=>⟨(zNS a).le gR,fun y _=>⟨0,⟨by have:=zIq a;grind,by have:=zIq a;grind⟩,gR⟩⟩⟩
theorem Sm.var {R:Rat} (l:0<R):Sm R (fun x=>x):=⟨R+1,gR,fun x h=>⟨h.le gR,fun y _=>⟨1,⟨gR,gR⟩,gR⟩⟩⟩
theorem Sm.add {R:Rat} {f g:Rat->Rat} (h:Sm R f) (k:Sm R g):Sm R (fun x=>f x+g x):=by
 obtain ⟨M,C,h⟩:=h;obtain ⟨N,E,k⟩:=k;refine ⟨M+N,gR,fun x l=>⟨(h x l).1.add (k x l).1,fun y z => ?_⟩⟩;obtain ⟨d,d1,d2⟩:=(h x l).2 y z;obtain ⟨e,A,F⟩:=(k x l).2 y z;exact ⟨d+e,d1.add A,gR⟩
theorem Sm.mul {R:Rat} {f g:Rat->Rat} (h:Sm R f) (k:Sm R g):Sm R (fun x=>f x*g x):=by
 obtain ⟨M,A,h⟩:=h;obtain ⟨N,C,k⟩:=k;have hMN:=fh A C;refine ⟨M*N+M*N,gR,fun x l=>⟨((h x l).1.mul (k x l).1).le gR,fun y z => ?_⟩⟩;obtain ⟨d,d1,d2⟩:=(h x l).2 y z;obtain ⟨e,E,F⟩:=(k x l).2 y z;exact ⟨d*g y+f x*e,(d1.mul (k y z).1).add ((h x l).1.mul E),gR⟩
def SmA (f:Rat->Rat):Prop:=∀ R,0<R->Sm R f
theorem sm_ev:∀ p:Poly,SmA (ev p)
 | [],R,_=>Sm.const R 0
 | a :: p,R,h=>(Sm.const R a).add ((Sm.var h).mul (sm_ev p R h))
theorem SmA.scale {f:Rat->Rat} (h:SmA f) (c:Rat):SmA (fun x=>c*f x):=fun R hR=>(Sm.const R c).mul (h R hR)
def derv:Poly->Rat->Rat
 | [],_=>0
 | _ :: p,x=>ev p x+x*derv p x
def Dv (R:Rat) (f g:Rat->Rat):Prop:=∃ E,0<E/\∀ x y,Bd R x->Bd R y->∃ e,Bd E e/\f y-f x=(y-x)*(g x+(y-x)*e)
theorem zSL {R:Rat} (l:0<R):∀ p:Poly,Dv R (ev p) (derv p)
 | []=>⟨1,dE,fun x y _ _=>⟨0,⟨dE,dE⟩,by show (0:Rat)-0=(y-x)*(0+(y-x)*0);grind⟩⟩
 | a :: p=>by
  obtain ⟨M,F,h⟩:=sm_ev p R l;obtain ⟨I,C,k⟩:=zSL l p;have:=fh l C;refine ⟨M+R*I,gR,fun x y z A => ?_⟩;obtain ⟨d,d1,d2⟩:=(h x z).2 y A;obtain ⟨e,E,H⟩:=k x y z A;refine ⟨d+x*e,d1.add (z.mul E),?_⟩;rw [ev,ev,derv];grind
theorem zSb (x:Rat):∀ (p r:Poly) (j:Nat),(∀ k,co r k=co p k*((k+j:Nat):Rat))->ev r x=(j:Rat)*ev p x+x*derv p x
 | [],r,j,h=>by
  rw [zKQ x (p:=r) fun k=>by rw [h,zAa,dO]];show 0=(j:Rat)*0+x*0;grind
 | a :: p,r,j,h=>by
  rw [zSd r x,h 0,zSb x p r.tail (j+1) fun k=>by rw [co_tail,h,zAF];congr 2;omega];rw [zAf,derv,ev,dW,show ((j+1:Nat):Rat)=(j:Rat)+1 from by push_cast;rfl];grind
theorem zHs {r:Poly} (h:∀ k,co r k=co p (k+1)*((k+1:Nat):Rat)) (x:Rat):ev r x=derv p x:=by
 cases p with
 | nil=>exact zKQ x fun k=>by rw [h,zAa,dO]
 | cons a p =>
  rw [zSb x p r 1 h,derv];show (1:Rat)*_+_=_;grind
inductive HC:List (Rat->Rat)->Prop
 | one:HC [fun _=>1]
 | two {f:Rat->Rat}:SmA f->HC [f,fun _=>1]
 | step {f g h q:Rat->Rat} {l:List (Rat->Rat)} {c:Rat}:HC (g :: h :: l)->SmA f->SmA q->0<c->(∀ x,f x=q x*g x-c*h x)->HC (f :: g :: h :: l)
theorem HC.sm {f:Rat->Rat} {l:List (Rat->Rat)} (h:HC (f :: l)):SmA f:=by
 cases h with
 | one=>exact fun R _=>Sm.const R 1
 | two h=>exact h
 | step _ h=>exact h
theorem HC.sm2 {f g:Rat->Rat} {l:List (Rat->Rat)} (h:HC (f :: g :: l)):SmA g:=by
 cases h with
 | two _=>exact fun R _=>Sm.const R 1
 | step h=>exact h.sm
def Wd:List Int->Int
 | []=>0
 | [_]=>0
 | a :: b :: l=>((a-b).natAbs:Int)+Wd (b :: l)
def sgs (L:List (Rat->Rat)) (x:Rat):List Int:=L.map fun f=>rsign (f x)
theorem zDq (f g:Rat->Rat) (l:List (Rat->Rat)) (x:Rat):Wd (sgs (f :: g :: l) x)=((rsign (f x)-rsign (g x)).natAbs:Int)+Wd (sgs (g :: l) x):=rfl
theorem zIK (x:Rat) : -1<=rsign x/\rsign x<=1:=by
 by_cases h:x=0
 . rw [h];decide
 . rcases zCF h with ⟨_,e⟩ | ⟨_,e⟩<;>rw [e]<;>decide
def Far (h y:Rat):Prop:=h<=y\/y <= -h
theorem zPp {l:Rat} (h:¬ Far l y):Bd l y:=by
 unfold Far at h;constructor<;>grind
theorem zEy {a b:Rat} (l:0<a) (z:0<b):∃ m,0<m/\m<=a/\m<=b:=by
 by_cases h:a<=b
 . exact ⟨a,l,gR,h⟩
 . exact ⟨b,z,gR,gR⟩
theorem zLz {c:Rat} (l:0<c) (h:0<=c*x):0<=x:=by
 by_cases e:0<=x
 . exact e
 . have:=fh l (gR:0 < -x);grind
theorem div_pos {a b:Rat} (h:0<a) (l:0<b):0<a/b:=by
 rw [iD];exact fh h (Rat.inv_pos.2 l)
theorem zMR {R:Rat} {f:Rat->Rat} (h:Sm R f) {l:Rat} (C:0<l):∃ E,0<E/\∀ a b,Bd R a->Bd R b->a<=b->b<=a+E->Far l (f a)->(0<f a/\0<f b)\/(f a<0/\f b<0):=by
 obtain ⟨M,Z,h⟩:=h;have z:0<2*M:=gR
 refine ⟨l/(2*M),div_pos C z,fun a b H I J F A => ?_⟩;obtain ⟨d,d1,d2⟩:=(h a H).2 b I;have hd:Bd (l/(2*M)) (b-a):=⟨by have:=div_pos C z;grind,gR⟩;have hm:=hd.mul d1;rw [show l/(2*M)*M=l/2 by grind] at hm;obtain ⟨m1,m2⟩:=hm;rcases A with A | A
 . left;constructor<;>grind
 . right;constructor<;>grind
def Pp (R:Rat) (L:List (Rat->Rat)):Prop:=∀ f l,L=f :: l->∀ h,0<h->∃ z,0<z/\∀ a b,Bd R a->Bd R b->a<=b->b<=a+z->Far h (f a)->Wd (sgs L a)=Wd (sgs L b)
theorem zPz (h:(0<x/\0<y)\/(x<0/\y<0)):rsign x=rsign y:=by
 rcases h with ⟨h1,l⟩ | ⟨h1,l⟩
 . rw [zBl h1,zBl l]
 . rw [zBk h1,zBk l]
theorem zTz (R:Rat) (g:Rat->Rat):Pp R [g]:=fun f l e h _=>⟨1,dE,fun a b _ _ _ _ _=>rfl⟩
theorem hc_P {R:Rat} (J:0<R) {L:List (Rat->Rat)} (hL:HC L):Pp R L/\Pp R L.tail:=by
 induction hL with
 | one=>exact ⟨zTz R _,fun f l e=>by cases e⟩
 | two hf =>
  refine ⟨fun f' l e A M => ?_,zTz R _⟩;cases e;obtain ⟨η,h1,h2⟩:=zMR (hf R J) M;refine ⟨η,h1,fun a b F I C H z => ?_⟩;rw [zDq,zDq,zPz (h2 a b F I C H z)];rfl
 | @step f g h q l c hg hf hq hc ah ih =>
  refine ⟨fun f' l' e A M => ?_,ih.1⟩;cases e;obtain ⟨Mq,aM,bq⟩:=hq R J;have hσ:0<A/(2*Mq):=div_pos M gR;have hρ:0<A/(2*c):=div_pos M gR;obtain ⟨aN,k1,s1⟩:=zMR (hf R J) M;obtain ⟨aO,k2,s2⟩:=zMR (hg.sm R J) hσ;obtain ⟨aP,k3,s3⟩:=zMR (hg.sm2 R J) hρ;obtain ⟨aQ,k4,p4⟩:=ih.1 g (h :: l) rfl _ hσ;obtain ⟨aR,k5,p5⟩:=ih.2 h l rfl _ hρ;obtain ⟨m1,n1,l1,l2⟩:=zEy k1 k2;obtain ⟨m2,n2,l3,l4⟩:=zEy k3 k4;obtain ⟨m3,n3,l5,l6⟩:=zEy n1 n2;obtain ⟨m4,n4,l7,l8⟩:=zEy n3 k5;refine ⟨m4,n4,fun a b F I C H z => ?_⟩;have q1:=s1 a b F I C gR z;have f1:=zPz q1;by_cases hga:Far (A/(2*Mq)) (g a)
  . rw [zDq,zDq f,f1,zPz (s2 a b F I C gR hga),p4 a b F I C gR hga]
  . have hm:=(bq a F).1.mul (zPp hga);rw [show Mq*(A/(2*Mq))=A/2 by grind] at hm;obtain ⟨m5,m6⟩:=hm;have he:=ah a;have hcρ:c*(A/(2*c))=A/2:=by grind
    have hh:(A<=f a/\h a <= -(A/(2*c)))\/(f a <= -A/\A/(2*c)<=h a):=by
     rcases z with z | z
     . left;refine ⟨z,?_⟩;have:=zLz hc (x := -(A/(2*c))-h a) gR;grind
     . right;refine ⟨z,?_⟩;have:=zLz hc (x:=h a-A/(2*c)) gR;grind
    have hF:Far (A/(2*c)) (h a):=by
     rcases hh with ⟨_,e⟩ | ⟨_,e⟩
     . exact .inr e
     . exact .inl e
    have E:=s3 a b F I C gR hF;have p:Wd (sgs (h :: l) a)=Wd (sgs (h :: l) b):=p5 a b F I C gR hF;rw [zDq,zDq,zDq,zDq,p];have r1:=zIK (g a);have r2:=zIK (g b);rcases hh with ⟨e1,e2⟩ | ⟨e1,e2⟩
    . have Z:0<f a/\0<f b:=by
       rcases q1 with q1 | q1
       . exact q1
       . exact absurd q1.1 gR
      have u2:h a<0/\h b<0:=by
       rcases E with E | E
       . exact absurd E.1 gR
       . exact E
      rw [zBl Z.1,zBl Z.2,zBk u2.1,zBk u2.2];omega
    . have Z:f a<0/\f b<0:=by
       rcases q1 with q1 | q1
       . exact absurd q1.1 gR
       . exact q1
      have u2:0<h a/\0<h b:=by
       rcases E with E | E
       . exact E
       . exact absurd E.1 gR
      rw [zBk Z.1,zBk Z.2,zBl u2.1,zBl u2.2];omega
theorem hc_bez {R:Rat} (I:0<R) {L:List (Rat->Rat)} (J:HC L):∀ f g l,L=f :: g :: l->∃ σ,0<σ/\∀ x,Bd R x->Far σ (f x)\/Far σ (g x):=by
 induction J with
 | one=>intro f g l e;cases e
 | two M=>intro f g l e;cases e;exact ⟨1,dE,fun x _ => .inr (.inl (Rat.le_refl (a:=1)))⟩
 | @step f g h q l c hg M Z hc F ih =>
  intro f' g' l' e;cases e;obtain ⟨σ,C,b⟩:=ih g h l rfl;obtain ⟨A,ah,bq⟩:=Z R I;have hcσ:=fh hc C;obtain ⟨m,hm,m1,m2⟩:=zEy C (div_pos hcσ (gR:0<2*(A+1)));refine ⟨m,hm,fun x H => ?_⟩;by_cases h1:Far m (f x)
  . exact .inl h1
  by_cases E:Far m (g x)
  . exact .inr E
  exfalso;have b1:=zPp h1;have b2:=(bq x H).1.mul (zPp E);have b3:(A+1)*m<=c*σ/2:=by
   have z:=dX (gR:0<=A+1) (gR:0<=c*σ/(2*(A+1))-m);have h4:(A+1)*(c*σ/(2*(A+1)))=c*σ/2:=gR
   grind
  have he:=F x;obtain ⟨b4,b5⟩:=b1;obtain ⟨b6,b7⟩:=b2;rcases b x H with z | z
  . rcases z with z | z
    . exact E (.inl gR)
    . exact E (.inr gR)
  . rcases z with z | z
    . have:=dX (gR:0<=c) (gR:0<=h x-σ);grind
    . have:=dX (gR:0<=c) (gR:0 <= -σ-h x);grind
theorem arch (x:Rat):∃ n:Nat,x<=(n:Rat):=⟨x.ceil.toNat,by
 have h1:=Rat.le_ceil (x:=x);have h:((x.ceil:Int):Rat)<=((x.ceil.toNat:Int):Rat):=gT.2 oM;have l:((x.ceil.toNat:Int):Rat)=(x.ceil.toNat:Rat):=rfl;grind⟩
theorem cross {R K h:Rat} {h0 F:Rat->Rat} {a b:Rat} (M:Bd R a) (Z:Bd R b) (E:0<h) (hK:0<=K)
 (I:∀ x y,a<=x->x<=y->y<=b->0<h0 x->F x-K*((y-x)*(y-x))<=F y) (H:h0 b<0) :
 ∀ (n:Nat) x,a<=x->x<=b->0<h0 x->b-x<=(n:Rat)*h->∃ l z,x<=l/\l<=z/\z<=b/\z-l<=h/\0<h0 l/\h0 z<=0/\F x-K*(h*(l-x))<=F l
 | 0,x,h1,J,A,C=>by
  have C:b-x<=0*h:=C;have:x=b:=gR
  subst this;exact absurd A gR
 | n+1,x,h1,J,A,C=>by
  by_cases e1:b<=x+h
  . exact ⟨x,b,gR,J,gR,gR,A,gR,gR⟩
  by_cases e2:h0 (x+h)<=0
  . exact ⟨x,x+h,gR,gR,gR,gR,A,e2,gR⟩
  rw [show ((n+1:Nat):Rat)=(n:Rat)+1 from by push_cast;rfl] at C;obtain ⟨l,z,k1,k2,k3,k4,k5,k6,k7⟩:=cross M Z E hK I H n (x+h) gR gR gR gR;have:=I x (x+h) h1 gR gR A;exact ⟨l,z,gR,k2,k3,k4,k5,k6,gR⟩
theorem zTA {R:Rat} (Z:0<R) {f0:Rat->Rat} {c:Rat} (hc:0<c) (s0:SmA h0) (s1:SmA h1) (sG:SmA G) (e0:∀ x,f0 x=h0 x*G x) (e1:∀ x,f1 x=h1 x*G x)
 (H:Dv R f0 (fun x=>c*f1 x)) {σ:Rat} (ae:0<σ) :
 ∃ l,0<l/\∀ a b,Bd R a->Bd R b->a<=b->b<=a+l->f0 a≠0->σ<=h1 a->0<h0 a->0<=h0 b:=by
 obtain ⟨l,ah,st⟩:=zMR (s1 R Z) ae;obtain ⟨E,hE,H⟩:=H;obtain ⟨M,hM,b0⟩:=s0 R Z;obtain ⟨N,hN,bG⟩:=sG R Z;refine ⟨l,ah,fun a b ha hb ai av aj ak al => ?_⟩;by_cases A:0<=h0 b
 . exact A
 exfalso;have A:h0 b<0:=gR
 have z:=fh hM hN;have hK:0<=2*(M*N*E):=by have:=fh z hE;grind
 have hv:0<f0 a*f0 a:=sq_pos' aj;have hin:∀ x,a<=x->x<=b->Bd R x:=fun x h1 h2=>⟨by have:=ha.1;grind,by have:=hb.2;grind⟩;have hF:∀ x y,a<=x->x<=y->y<=b->0<h0 x->f0 x*f0 x-2*(M*N*E)*((y-x)*(y-x))<=f0 y*f0 y:=fun x y I k2 k3 k4=>by
  have hx:=hin x I gR;have hy:=hin y gR k3;obtain ⟨e,be,he⟩:=H x y hx hy;have p1:0<h1 x:=by
   rcases st a x ha hx I gR (.inl ak) with q | q
   . exact q.2
   . exact absurd q.1 gR
  have J:Bd (M*N) (f0 x):=by rw [e0];exact (b0 x hx).1.mul (bG x hx).1
  have am:=J.mul be;have p2:0<=c*f1 x*f0 x:=by
   rw [e0,e1];have q1:=dX (dX (gR:0<=c) (gR:0<=h1 x)) (gR:0<=h0 x);have q2:=dX q1 (zIT (G x));grind
  have p3:=dX (gR:0<=y-x) p2;have p4:=zIT ((y-x)*(c*f1 x+(y-x)*e));have p5:=dX (zIT (y-x)) (show 0<=f0 x*e+M*N*E by have:=am.1;grind);have he:f0 y=f0 x+(y-x)*(c*f1 x+(y-x)*e):=gR
  rw [he];grind
 have hC:0<2*(M*N*E)*l+M*N*(M*N)+1:=by
  have:=dX hK (gR:0<=l);have:=fh z z;grind
 obtain ⟨h,an,aJ,aK⟩:=zEy (dE:(0:Rat)<1) (div_pos hv (gR:0<2*(2*(M*N*E)*l+M*N*(M*N)+1)));obtain ⟨n,hn⟩:=arch ((b-a)/h);have hn:b-a<=(n:Rat)*h:=by
  have:=dX (gR:0<=(n:Rat)-(b-a)/h) (gR:0<=h);have:(b-a)/h*h=b-a:=gR
  grind
 obtain ⟨x,y,I,k2,k3,k4,k5,k6,k7⟩:=cross (F:=fun x=>f0 x*f0 x) ha hb an hK hF A n a gR ai al hn;have hx:=hin x I gR;have hy:=hin y gR k3;obtain ⟨d,bd,H⟩:=(b0 x hx).2 y hy;have hyx:Bd h (y-x):=⟨gR,k4⟩;have bh:Bd (h*M) (h0 x):=by
  have:=(hyx.mul bd).1;constructor<;>grind
 have J:Bd (h*M*N) (f0 x):=by rw [e0];exact bh.mul (bG x hx).1
 have bF:=(J.mul J).2
 -- too small
 have t1:h*M*N*(h*M*N)<=h*(M*N*(M*N)):=by
  have:=dX (dX (gR:0<=h) (gR:0<=1-h)) (show 0<=M*N*(M*N) by have:=fh z z;grind);grind
 have t2:2*(M*N*E)*(h*(x-a))<=h*(2*(M*N*E)*l):=by
  have:=dX (dX hK (gR:0<=h)) (gR:0<=l-(x-a));grind
 have t3:(2*(M*N*E)*l+M*N*(M*N)+1)*h<=f0 a*f0 a/2:=by
  have h3:=dX (gR:0<=2*(M*N*E)*l+M*N*(M*N)+1) (show 0<=f0 a*f0 a/(2*(2*(M*N*E)*l+M*N*(M*N)+1))-h by grind);have h4:(2*(M*N*E)*l+M*N*(M*N)+1)*(f0 a*f0 a/(2*(2*(M*N*E)*l+M*N*(M*N)+1)))=f0 a*f0 a/2:=by
   generalize 2*(M*N*E)*l+M*N*(M*N)+1=C at hC ⊢;grind
  grind
 have k7:f0 a*f0 a-2*(M*N*E)*(h*(x-a))<=f0 x*f0 x:=k7;grind
theorem SmA.neg {f:Rat->Rat} (h:SmA f):SmA (fun x => -f x):=fun R hR=>by
 have:=h.scale (-1) R hR;rwa [show (fun x => -f x)=fun x => -1*f x from funext fun x=>by grind]
theorem hc_mono {R:Rat} (H:0<R) {f0:Rat->Rat} {l:List (Rat->Rat)} {c:Rat} (C:HC (h0 :: h1 :: l)) (hc:0<c) (sG:SmA G) (J:∀ x,f0 x=h0 x*G x) (e1:∀ x,f1 x=h1 x*G x)
 (hd:Dv R f0 (fun x=>c*f1 x)) :
 ∃ η,0<η/\∀ a b,Bd R a->Bd R b->a<=b->b<=a+η->f0 a≠0->f0 b≠0->Wd (sgs (h0 :: h1 :: l) b)<=Wd (sgs (h0 :: h1 :: l) a):=by
 obtain ⟨σ,z,bz⟩:=hc_bez H C _ _ _ rfl;obtain ⟨P1,P2⟩:=hc_P H C;obtain ⟨aD,k1,p1⟩:=P1 _ _ rfl σ z;obtain ⟨aE,k2,p2⟩:=P2 _ _ rfl σ z;obtain ⟨aF,k3,s3⟩:=zMR (C.sm2 R H) z;obtain ⟨aG,k4,n4⟩:=zTA H hc C.sm C.sm2 sG J e1 hd z;obtain ⟨aH,k5,n5⟩:=zTA H hc C.sm.neg C.sm2.neg sG.neg (fun x=>by rw [J];grind) (fun x=>by rw [e1];grind) hd z;obtain ⟨m1,q1,l1,l2⟩:=zEy k1 k2;obtain ⟨m2,q2,l3,l4⟩:=zEy k3 k4;obtain ⟨m3,q3,l5,l6⟩:=zEy q1 q2;obtain ⟨m4,q4,l7,l8⟩:=zEy q3 k5;refine ⟨m4,q4,fun a b F I A aj E aa => ?_⟩;rcases bz a F with hF | hF
 . rw [p1 a b F I A gR hF];exact ia _
 . have e:=p2 a b F I A gR hF;have e:Wd (sgs (h1 :: l) a)=Wd (sgs (h1 :: l) b):=e;rw [zDq,zDq,e];have na:h0 a≠0:=fun e=>E (by rw [J,e,dO]);have nb:h0 b≠0:=fun e=>aa (by rw [J,e,dO]);have ra:=zIK (h0 a);have rb:=zIK (h0 b);rcases s3 a b F I A gR hF with ⟨M,Z⟩ | ⟨M,Z⟩
   . rw [zBl M,zBl Z];by_cases h:0<h0 a
     . have:=n4 a b F I A gR E (by rcases hF with hF | hF<;>grind) h;rw [zBl (gR:0<h0 b)];omega
     . rw [zBk (gR:h0 a<0)];omega
   . rw [zBk M,zBk Z];by_cases h:h0 a<0
     . have:=n5 a b F I A gR E (by rcases hF with hF | hF<;>grind) gR;rw [zBk (gR:h0 b<0)];omega
     . rw [zBl (gR:0<h0 a)];omega
def mir:Poly->Poly
 | []=>[]
 | a :: p=>a :: (mir p).map (· * (-1))
theorem zQy (x:Rat):∀ p:Poly,ev (mir p) x=ev p (-x)
 | []=>rfl
 | a :: p=>by rw [mir,ev,zBK,zQy x p,ev];grind
theorem zTu:∀ (p:Poly) (k:Nat),co (mir p) k=if k%2=0 then co p k else-co p k
 | [],k=>by rw [mir,zAa];split<;>grind
 | a :: p,0=>rfl
 | a :: p,k+1=>by
  rw [mir,zAF,zBf,zTu p k,zAF];by_cases h:k%2=0
  . rw [cD h,ct oM];grind
  . rw [ct h,cD oM];grind
theorem rsign_neg' (x:Rat):rsign (-x) = - rsign x:=by
 unfold rsign;rw [hZ];exact Int.sign_neg _
theorem zII {a g:Rat} (h:0<g):rsign (a*g)=rsign a:=by
 by_cases e:a=0
 . rw [e,dO]
 . rcases zCF e with ⟨h1,l⟩ | ⟨h1,l⟩
   . rw [l,zBl (fh h1 h)]
   . rw [l,zBk ((Rat.mul_neg_iff_of_pos_right h).2 h1)]
theorem zQX:∀ {f:Nat} {P Q:Poly} {L:List Poly},zBe f P Q=some L->Trimd P->Trimd Q->P≠[] ->
 ∃ (g:Poly) (hs:List (Rat->Rat)),HC hs/\L.map ev=hs.map (fun h x=>h x*ev g x)/\(Q=[]->L=[P])/\(Q≠[]->∃ l,L=P :: Q :: l)/\∀ p,p∈L->Trimd p/\p≠[]
 | 0,_,_,_,h,_,_,_=>by cases h
 | f+1,P,Q,L,h,hP,hQ,I=>by
  unfold zBe at h;rw [ct I] at h;split at h
  . next e =>
    cases h;refine ⟨P,[fun _=>1],.one,?_,fun _=>rfl,fun h=>absurd e h,fun p hp => ?_⟩
    . show [ev P]=[fun x=>1*ev P x];congr 1;funext x;grind
    . obtain rfl:=dI.1 hp;exact ⟨hP,I⟩
  . next J =>
    obtain ⟨R,hR,h⟩:=cbind h;obtain ⟨s,hs,h⟩:=cbind h;obtain ⟨S,hS,h⟩:=cbind h;obtain ⟨l,hl,h⟩:=cbind h;cases h;obtain ⟨S1,S2,t,ht,S3⟩:=zAj hS;obtain ⟨g,aa,C,z,aj,ak,ab⟩:=zQX hl hQ S1 J;have hid:=zKu hR;rw [zo hQ] at hid;have hev:∀ x,ev P x=ev R.1 x*ev Q x+ev R.2 x:=fun x=>by
     rw [zKP (p:=prod R.1 Q) (q:=R.2) fun k=>by rw [zCp,hid],zAY]
    have F:∀ x,ev S x=ev R.2 x*(-1)*t:=fun x=>by rw [zEN S3,zEN (zBD hs).2]
    have E:∀ p,p∈P :: l->Trimd p/\p≠[]:=fun p hp=>by
     rcases eY.1 hp with e | e
     . subst e;exact ⟨hP,I⟩
     . exact ab p e
    by_cases M:S=[]
    . have al:=aj M;subst al
      match aa,C,z with
      | [],C,z=>exact absurd (cW List.length z) sM
      | [h1],C,z =>
       cases C;have hQg:ev Q=fun x=>1*ev g x:=(iJ z).1;refine ⟨g,[ev R.1,fun _=>1],.two (sm_ev _),?_,fun h=>absurd h J,fun _=>⟨[],rfl⟩,E⟩;show [ev P,ev Q]=[fun x=>ev R.1 x*ev g x,fun x=>1*ev g x];have Z:ev P=fun x=>ev R.1 x*ev g x:=funext fun x=>by
        have h1:=F x;rw [M] at h1;have h1:(0:Rat)=ev R.2 x*(-1)*t:=h1;have h2:ev R.2 x=0:=gR
        have h3:ev Q x=1*ev g x:=congrFun hQg x;rw [hev,h2,h3];grind
       rw [Z,hQg]
      | _ :: _ :: _,C,z=>exact absurd (cW List.length z) sM
    . obtain ⟨l2,am⟩:=ak M;subst am
      match aa,C,z with
      | [],C,z=>exact absurd (cW List.length z) sM
      | [_],C,z=>exact absurd (cW List.length z) sM
      | H :: A :: l3,C,z =>
       have z:=iJ z;have hQg:ev Q=fun x=>H x*ev g x:=z.1;have hm2:=iJ z.2;have hSg:ev S=fun x=>A x*ev g x:=hm2.1;have hct:0<1/t:=div_pos dE ht;refine ⟨g,(fun x=>ev R.1 x*H x-(1/t)*A x) :: H :: A :: l3,.step C ?_ (sm_ev R.1) hct (fun x=>rfl),?_,fun h=>absurd h J,fun _=>⟨_,rfl⟩,E⟩
       . intro B hB;have h1:=((sm_ev R.1 B hB).mul (C.sm B hB)).add ((C.sm2.scale (1/t)).neg B hB);rwa [show (fun x=>ev R.1 x*H x-(1/t)*A x)=fun x=>ev R.1 x*H x + -(1/t*A x) from funext fun x=>by grind]
       . have Z:ev P=fun x=>(ev R.1 x*H x-(1/t)*A x)*ev g x:=funext fun x=>by
          have h1:=F x;have h3:ev Q x=H x*ev g x:=congrFun hQg x;have h4:ev S x=A x*ev g x:=congrFun hSg x;have h5:ev R.2 x = -(1/t)*ev S x:=gR
          rw [hev,h5,h3,h4];grind
         show ev P :: ev Q :: ev S :: l2.map ev=_ :: _ :: _ :: l3.map _;rw [Z,hQg,hSg,hm2.2]
variable {V b i m:Nat}
theorem zNA {p:Nat->Prop}:∀ n,p n->∃ m,p m/\∀ k,k<m->¬ p k:=fun n=>by
 induction n using Nat.strongRecOn with
 | ind n l =>
  intro h;by_cases e:∃ k,k<n/\p k
  . obtain ⟨k,h1,z⟩:=e;exact l k h1 z
  . exact ⟨n,h,fun k A C=>e ⟨k,A,C⟩⟩
theorem prime_of (A:1<m):∃ p,1<p/\p∣m/\∀ d,d∣p->d=1\/d=p:=by
 obtain ⟨p,⟨h1,l⟩,C⟩:=zNA (p:=fun p=>1<p/\p∣m) m ⟨A,Nat.dvd_refl m⟩;refine ⟨p,h1,l,fun d h => ?_⟩;have h4:=Nat.le_of_dvd oM h;have h5:=Nat.pos_of_dvd_of_pos h oM;by_cases e:d=1
 . exact .inl e
 . refine .inr ?_;rcases dR d p with z | z
   . exact absurd ⟨oM,Nat.dvd_trans h l⟩ (C d z)
   . omega
theorem prime_mul {p:Nat} (l:∀ d,d∣p->d=1\/d=p) {a b:Int} (h:(p:Int)∣a*b):(p:Int)∣a\/(p:Int)∣b:=by
 have h1:p∣a.natAbs*b.natAbs:=by rw [<- ey];exact Int.ofNat_dvd_left.1 h
 rcases l (Nat.gcd p a.natAbs) (ij _ _) with e | e
 . exact .inr (Int.ofNat_dvd_left.2 (Nat.Coprime.dvd_of_dvd_mul_left e h1))
 . exact .inl (Int.ofNat_dvd_left.2 (e ▸ Nat.gcd_dvd_right p a.natAbs))
theorem zRh {d:Int}:∀ (n:Nat) (f:Nat->Int),(∀ i,i<n->d∣f i)->d∣sumI n f
 | 0,f,_=>Int.dvd_zero d
 | n+1,f,h=>Int.dvd_add (h 0 oM) (zRh n _ fun i hi=>h (i+1) oM)
theorem zJW {d:Int}:∀ (n:Nat) (f:Nat->Int) (k:Nat),k<n->(∀ i,i<n->i≠k->d∣f i)->d∣sumI n f->d∣f k
 | 0,f,k,z,_,_=>absurd z oM
 | n+1,f,0,z,h,l=>by
  have h1:=zRh n (fun i=>f (i+1)) fun i hi=>h (i+1) oM oM;rw [sumI] at l;exact (Int.dvd_add_left h1).1 l
 | n+1,f,k+1,z,h,l=>by
  rw [sumI] at l;exact zJW n (fun i=>f (i+1)) k oM (fun i hi hne=>h (i+1) oM oM) ((Int.dvd_add_right (h 0 oM oM)).1 l)
def cvI (n:Nat) (G H:Nat->Int) (t:Nat):Int:=sumI n fun i=>(if i<=t then H (t-i) else 0)*G i
theorem gauss_dvd {p:Nat} (A:∀ d,d∣p->d=1\/d=p) {G H:Nat->Int} (C:∃ i,i<n/\¬ (p:Int)∣G i) (h:∀ t,(p:Int)∣cvI n G H t):∀ t,(p:Int)∣H t:=by
 obtain ⟨l,⟨h1,E⟩,F⟩:=C.elim fun i hi=>zNA (p:=fun i=>i<n/\¬ (p:Int)∣G i) i hi;intro t
 induction t using Nat.strongRecOn with
 | ind t I =>
  have J:=h (l+t);have:=zJW n _ l h1 (fun i hi hne=>by
   rcases dR i l with z | z
   . have:(p:Int)∣G i:=fH fun M=>F i z ⟨hi,M⟩;exact Int.dvd_mul_of_dvd_right this
   . by_cases e:i<=l+t
     . rw [cD e];exact Int.dvd_mul_of_dvd_left (I _ oM)
     . rw [ct e,Int.zero_mul];exact Int.dvd_zero _) J
  rw [cD oM,Nat.add_sub_cancel_left] at this;exact (prime_mul A this).resolve_right E
theorem cvI_mul (n:Nat) (G:Nat->Int) (H:Nat->Int) (c:Int) (t:Nat):cvI n G (fun k=>c*H k) t=c*cvI n G H t:=by
 unfold cvI;have h:∀ (n:Nat) (f:Nat->Int),sumI n (fun i=>c*f i)=c*sumI n f:=by
  intro n
  induction n with
  | zero=>intro f;rw [sumI,sumI,Int.mul_zero]
  | succ n l=>intro f;rw [sumI,sumI,l,Int.mul_add]
 rw [<- h];exact zHB _ _ _ fun i hi=>by
  split
  . rw [Int.mul_assoc]
  . rw [Int.zero_mul,Int.mul_zero]
theorem gauss {G:Nat->Int} (I:∀ p:Nat,1<p->(∀ d,d∣p->d=1\/d=p)->∃ i,i<n/\¬ (p:Int)∣G i):∀ (m:Nat) {H Z:Nat->Int},0<m->(∀ t,cvI n G H t=(m:Int)*Z t)->∃ z:Nat->Int,∀ t,H t=(m:Int)*z t:=by
 intro m
 induction m using Nat.strongRecOn with
 | ind m J =>
  intro H Z M h;by_cases e:m=1
  . subst e;exact ⟨H,fun t=>by simp⟩
  . obtain ⟨p,C,p2,E⟩:=prime_of (oM:1<m);obtain ⟨l,rfl⟩:=p2;have hm':0<l:=gG fun e=>by subst e;simp at M
    have F:=gauss_dvd E (I p C E) fun t=>by rw [h];exact Int.dvd_mul_of_dvd_left (by rw [gj];exact Int.dvd_mul_right _ _)
    obtain ⟨z,A⟩:=J l (by have:1*l<p*l:=gg C hm';omega) (H:=fun t=>H t/p) (Z:=Z) hm' fun t=>by
     have h1:=cvI_mul n G (fun t=>H t/p) p t;rw [show (fun k=>(p:Int)*(H k/p))=H from funext fun k=>Int.mul_ediv_cancel' (F k),h,gj,Int.mul_assoc] at h1;exact Int.eq_of_mul_eq_mul_left oM h1.symm
    refine ⟨z,fun t => ?_⟩;have h1:=A t;have h2:=Int.mul_ediv_cancel' (F t);have h1:H t/(p:Int)=(l:Int)*z t:=h1;rw [h1] at h2;rw [<- h2,gj,Int.mul_assoc]
def evI (x:Int):Nat->(Nat->Int)->Int
 | 0,_=>0
 | n+1,f=>f 0+x*evI x n fun k=>f (k+1)
theorem zLj (x:Int):∀ (n:Nat) (f:Nat->Int),ev (mkL n f) x=evI x n f
 | 0,_=>rfl
 | n+1,f=>by rw [mkL,ev,evI,zLj x n,Rat.intCast_add,dH]
theorem zTo {K:Nat} {x:Nat}:∀ (n:Nat) (f:Nat->Int),(∀ k,(f k).natAbs<=K)->(evI x n f).natAbs<=K*(x+1)^n
 | 0,f,_=>by simp [evI]
 | n+1,f,h=>by
  have h1:=zTo (x:=x) n (fun k=>f (k+1)) fun k=>h (k+1);have h2:=h 0;have h3:((x:Int)*evI x n fun k=>f (k+1)).natAbs<=x*(K*(x+1)^n):=by
   rw [ey];exact dy x h1
  have l:K*1<=K*(x+1)^n:=dy K (eq oM);have h5:K*(x+1)^(n+1)=x*(K*(x+1)^n)+K*(x+1)^n:=by rw [dB];grind
  rw [evI,h5];omega
theorem zSZ {K:Nat} {x:Nat} (l:K<x):∀ (n:Nat) (f:Nat->Int),(∀ k,(f k).natAbs<=K)->f n≠0->1<=(evI x (n+1) f).natAbs
 | 0,f,_,h=>by rw [evI,evI];omega
 | n+1,f,h,h0=>by
  have h1:=zSZ l n (fun k=>f (k+1)) (fun k=>h (k+1)) h0;have h2:=h 0;have h3:x*1<=((x:Int)*evI x (n+1) fun k=>f (k+1)).natAbs:=by
   rw [ey];exact dy x h1
  rw [evI];omega
theorem Bd.neg {A:Rat} (h:Bd A x):Bd A (-x):=⟨by have:=h.2;grind,by have:=h.1;grind⟩
theorem zBc (h:a<=b):(a:Rat)<=(b:Rat):=by exact_mod_cast h
theorem zTc {V:Rat} (hi:1<=i) (l:0<=V) (h:Bd V ((i:Rat)*x)):Bd V x:=by
 have h1:(1:Rat)<=(i:Rat):=zBc hi;obtain ⟨a,b⟩:=h;constructor
 . by_cases e : -V<=x
   . exact e
   . have:=dX (gR:(0:Rat)<=i-1) (gR:0 <= -V-x);have:=dX (gR:(0:Rat)<=i-1) l;grind
 . by_cases e:x<=V
   . exact e
   . have:=dX (gR:(0:Rat)<=i-1) (gR:0<=x-V);have:=dX (gR:(0:Rat)<=i-1) l;grind
theorem zUC (m:Rat) (p:Poly):co p 0=ev p m-m*co (sd m p) 0:=by
 cases p with
 | nil=>show (0:Rat)=0-m*0;grind
 | cons a p=>cases p with
  | nil=>show a=(a+m*0)-m*0;grind
  | cons b p=>rw [sd,zAf,zAf,ev];grind
theorem zUD (m:Rat):∀ (p:Poly) (k:Nat),co p (k+1)=co (sd m p) k-m*co (sd m p) (k+1)
 | [],k=>by show (0:Rat)=0-m*0;grind
 | [a],k=>by show (0:Rat)=0-m*0;grind
 | a :: b :: p,0=>by
  rw [sd,zAf,zAF,zAF,zUC m (b :: p)]
 | a :: b :: p,k+1=>by rw [sd,zAF,zAF,zAF];exact zUD m (b :: p) k
theorem zTs {b:Nat} (A:1<=b):∀ (n:Nat) (p:Poly) (a:Nat) (V:Rat),p.length<=n->0<=V->a+n<=b->(∀ i,i<n->Bd V (ev p ((a+i:Nat):Rat)))->∀ k,Bd (((4*b)^n:Nat)*V) (co p k)
 | 0,p,a,V,F,z,_,_,k=>by
  obtain rfl:p=[]:=zAd oM;rw [zAa];have:=dX (show (0:Rat)<=((4*b)^0:Nat) from zBc (a:=0) oM) z;exact ⟨gR,this⟩
 | n+1,p,a,V,F,z,H,h,k=>by
  have h0:=h 0 oM;rw [fw] at h0;have ih:=zTs A n (sd a p) (a+1) (2*V) (by rw [zTK];omega) gR oM fun i hi=>by
   have h1:=(h (i+1) oM).add h0.neg;rw [sd_ev (a:Rat) _ p,show ((a+(i+1):Nat):Rat)-(a:Rat)=((i+1:Nat):Rat) from by push_cast;grind] at h1;rw [show ev p (a:Rat)+((i+1:Nat):Rat)*ev (sd (a:Rat) p) ((a+(i+1):Nat):Rat) + -ev p (a:Rat)=((i+1:Nat):Rat)*ev (sd (a:Rat) p) ((a+(i+1):Nat):Rat) by grind,show V+V=2*V by grind] at h1;rw [show a+1+i=a+(i+1) by omega];exact zTc oM gR h1
  have l:Bd (b:Rat) (a:Rat):=⟨by have:=zBc (di a);have:=zBc (di b);grind,zBc oM⟩;have hb1:(1:Rat)<=b:=zBc A;have hpow:(((4*b)^(n+1):Nat):Rat)*V=2*((b:Rat)*(((4*b)^n:Nat)*(2*V))):=by rw [dB];push_cast;grind
  have I:(1:Rat)<=(((4*b)^n:Nat):Rat):=zBc (eq oM);generalize (((4*b)^n:Nat):Rat)=C at *;have hCV:V<=C*V:=by have:=dX (gR:0<=C-1) z;grind
  have E:C*(2*V)<=(b:Rat)*(C*(2*V)):=by
   have:=dX (gR:0<=(b:Rat)-1) (gR:0<=C*(2*V));grind
  rw [hpow];cases k with
  | zero =>
   rw [zUC (a:Rat) p];have:=h0.add (l.mul (ih 0)).neg;rw [<- iq] at this;exact this.le gR
  | succ k =>
   rw [zUD (a:Rat) p k];have:=(ih k).add (l.mul (ih (k+1))).neg;rw [<- iq] at this;exact this.le gR
theorem zSK:∀ p:Poly,∃ c:Nat,0<c/\∀ k,∃ z:Int,co p k*(c:Rat)=z
 | []=>⟨1,oM,fun k=>⟨0,by rw [zAa,dO];rfl⟩⟩
 | a :: p=>by
  obtain ⟨c,h1,h⟩:=zSK p;refine ⟨a.den*c,Nat.mul_pos a.den_pos h1,fun k => ?_⟩;have l:a*(a.den:Rat)=a.num:=by
   have h1:=Rat.num_divInt_den a;rw [Rat.divInt_eq_div] at h1;have h:((a.den:Int):Rat)=(a.den:Rat):=rfl;have h3:(a.den:Rat)≠0:=fun e=>a.den_nz (by exact_mod_cast e);rw [h] at h1;rw [<- h1] ; grind
  cases k with
  | zero=>exact ⟨a.num*c,by rw [zAf,Rat.natCast_mul,<- Rat.mul_assoc,l,dH];rfl⟩
  | succ k =>
   obtain ⟨z,A⟩:=h k;have C:((a.den:Int):Rat)=(a.den:Rat):=rfl;exact ⟨z*a.den,by rw [zAF,Rat.natCast_mul,dH,<- A,C];grind⟩
theorem zSr {c:Rat} (h:∀ k,∃ z:Int,co p k*c=z):∃ G:Nat->Int,∀ k,co p k*c=G k:=⟨fun k=>Classical.choose (h k),fun k=>Classical.choose_spec (h k)⟩
theorem bd_nat {z:Int} (h:Bd (V:Rat) (z:Rat)):z.natAbs<=V:=by
 have h1:(-(V:Int):Int)<=z:=gT.1 (by rw [fQ];exact h.1);have h2:z<=(V:Int):=gT.1 h.2;omega
theorem zTv {z:Int} (h:z.natAbs<=V):Bd (V:Rat) (z:Rat):=by
 have h1:=gT.2 (oM:-(V:Int)<=z);have l:=gT.2 (oM:z<=(V:Int));rw [fQ] at h1;exact ⟨h1,l⟩
theorem factor_ch {P g h:Poly} {A:Nat} (hP:CH A P) (hn:P.length=n+1) (h0:co P n≠0) (hm:g.length=m+1) (h1:co g m=1) (aH:m<=n) (he:∀ x,ev P x=ev g x*ev h x) (hl:P.length<=64) :
 CH (A+P.length*(2*A+18)+1) g:=by
 obtain ⟨D,hP⟩:=hP;obtain ⟨Z,z1,z2⟩:=zGF hP;have hD:=zCy hP.1;obtain ⟨c0,aq⟩:=zSK g;obtain ⟨c,⟨c1,c2⟩,c3⟩:=zNA (p:=fun c=>0<c/\∀ k,∃ z:Int,co g k*(c:Rat)=z) c0 aq;obtain ⟨G,M⟩:=zSr c2;obtain ⟨e,e1,e2⟩:=zSK h;obtain ⟨H,hH⟩:=zSr e2;have hGm:G m=c:=by
  have:=M m;rw [h1,gZ] at this;exact_mod_cast this.symm
 have hc:(c:Rat)≠0:=by
  have:=zBc c1;grind
 -- no number above 1 divides all of G
 have ah:∀ p:Nat,1<p->(∀ d,d∣p->d=1\/d=p)->∃ i,i<m+1/\¬ (p:Int)∣G i:=fun p hp _=>by
  refine fH fun hn => ?_;have hall:∀ i,i<m+1->(p:Int)∣G i:=fun i hi=>fH fun h=>hn ⟨i,hi,h⟩;have hpc:p∣c:=by have:=hall m oM;rw [hGm] at this;exact Int.natCast_dvd_natCast.1 this
  obtain ⟨c',rfl⟩:=hpc;have ab:0<c':=gG fun e=>by subst e;simp at c1
  refine c3 c' ?_ ⟨ab,fun k => ?_⟩
  . have:1*c'<p*c':=gg hp ab;omega
  . rcases dR k (m+1) with l | l
    . obtain ⟨z,hz⟩:=hall k l;refine ⟨z,?_⟩;have:=M k;rw [hz,Rat.natCast_mul,dH] at this;have hp0:(p:Rat)≠0:=by have:=zBc (oM:1<=p);grind
      have I:((p:Int):Rat)=(p:Rat):=rfl;rw [I] at this;grind
    . exact ⟨0,by rw [co_ge oM,dO];rfl⟩
 have E:∀ k,m+1<=k->G k=0:=fun k l=>by
  have:=M k;rw [co_ge oM,dO] at this;exact_mod_cast this.symm
 have ad:∀ x,ev g x*(c:Rat)=ev (mkL (m+1) G) x:=fun x=>by
  rw [<- zBK];refine zDf x fun k => ?_;rw [zBf,M];rcases dR k (m+1) with l | l
  . rw [zJO _ _ _ l]
  . rw [co_ge (by rw [zFr];omega),E k l];rfl
 -- the product, in integers
 have J:∀ t,cvI (m+1) G (fun k=>D*H k) t=((c*e:Nat):Int)*Z t:=fun t=>by
  have C:=zMq (P:=h.map (· * ((e:Rat)*(D:Rat)))) (D:=1) (z:=fun k=>D*H k) (fun k=>by rw [zBf,dH,<- hH];show _*1=_;grind) (m+1) G t
  have h3:conv (mkL (m+1) G) (h.map (· * ((e:Rat)*(D:Rat)))) t=co P t*((c:Rat)*((e:Rat)*(D:Rat))):=by
   rw [<- zCp,ev_co (q:=P.map (· * ((c:Rat)*((e:Rat)*(D:Rat))))) (fun x=>by rw [zAY,zBK,zBK,<- ad,he];grind) t,zBf]
  rw [h3] at C;have F:((cvI (m+1) G (fun k=>D*H k) t:Int):Rat)=(((c*e:Nat):Int)*Z t:Int):=by
   unfold cvI;rw [<- C,dH,<- z1];have:(((c*e:Nat):Int):Rat)=(c:Rat)*(e:Rat):=by push_cast;rfl
   rw [this];show _*(1:Rat)=_;grind
  exact_mod_cast F
 obtain ⟨H',ar⟩:=gauss ah (c*e) (Nat.mul_pos c1 e1) J;have he0:(e:Rat)≠0:=by have:=zBc e1;grind
 have au:∀ x,ev h x*(D:Rat)=ev (mkL h.length H') x*(c:Rat):=fun x=>by
  rw [<- zBK,<- zBK];refine zDf x fun k => ?_;rw [zBf,zBf];rcases dR k h.length with l | l
  . rw [zJO _ _ _ l];have C:((D*H k:Int):Rat)=(((c*e:Nat):Int)*H' k:Int):=by rw [ar k]
    rw [dH,dH,<- hH,show (((c*e:Nat):Int):Rat)=(c:Rat)*(e:Rat) by push_cast;rfl] at C;grind
  . rw [co_ge l,co_ge (by rw [zFr];omega)];grind
 -- values
 have av:∀ x,ev P x*(D:Rat)=ev (mkL (n+1) Z) x:=fun x=>by
  rw [<- zBK];refine zDf x fun k => ?_;rw [zBf,z1];rcases dR k (n+1) with l | l
  . rw [zJO _ _ _ l]
  . have:=z1 k;rw [co_ge oM,dO] at this;rw [co_ge (by rw [zFr];omega),<- this]
 have aw:Z n≠0:=fun h=>by
  have:=z1 n;rw [h] at this;have:co P n*(D:Rat)=0:=this;grind
 have hK:∀ k,(Z k).natAbs<=2^A:=fun k=>by have:=z2 k;omega
 have ai:∀ x:Int,evI x (m+1) G*evI x h.length H'=evI x (n+1) Z:=fun x=>by
  have C:((evI x (m+1) G*evI x h.length H':Int):Rat)=(evI x (n+1) Z:Int):=by
   rw [dH,<- zLj,<- zLj,<- zLj,<- ad,<- av,he];have:=au x;grind
  exact_mod_cast C
 have aI:2^A+66<=2^(A+7):=by
  have:=iy A;rw [eM];omega
 have aj:∀ i,i<m+1->(evI ((2^A+1+i:Nat):Int) (m+1) G).natAbs<=2^(A+(A+7)*(n+1)):=fun i hi=>by
  have C:=zSZ (K:=2^A) (x:=2^A+1+i) oM n Z hK aw;have h3:=zTo (K:=2^A) (x:=2^A+1+i) (n+1) Z hK;have F:=cW Int.natAbs (ai ((2^A+1+i:Nat):Int));rw [ey] at F;have h5:(evI ((2^A+1+i:Nat):Int) (m+1) G).natAbs<=(evI ((2^A+1+i:Nat):Int) (n+1) Z).natAbs:=by
   rw [<- F];refine gh _ (gG fun e0 => ?_);rw [e0,fW] at F;omega
  have h6:(2^A+1+i+1)^(n+1)<=(2^(A+7))^(n+1):=gB oM _;rw [<- gL] at h6;have h7:=dy (2^A) h6;rw [<- eM] at h7;omega
 have aJ:=iy A;have hint:=zTs (b:=2^A+66) oM (m+1) (mkL (m+1) G) (2^A+1) ((2^(A+(A+7)*(n+1)):Nat):Rat) (by rw [zFr];exact cX _) (zBc (a:=0) (di _)) oM fun i hi=>by
  have C:=zLj ((2^A+1+i:Nat):Int) (m+1) G;have h3:(((2^A+1+i:Nat):Int):Rat)=((2^A+1+i:Nat):Rat):=rfl;rw [h3] at C;rw [C];exact zTv (aj i hi)
 have ae:∀ k,2*(G k).natAbs<=2^(A+P.length*(2*A+18)+1):=fun k=>by
  rcases dR k (m+1) with l | l
  . have C:=hint k;rw [zJO _ _ _ l,show (((4*(2^A+66))^(m+1):Nat):Rat)*((2^(A+(A+7)*(n+1)):Nat):Rat)=(((4*(2^A+66))^(m+1)*2^(A+(A+7)*(n+1)):Nat):Rat) by rw [Rat.natCast_mul]] at C;have h3:=bd_nat C;have F:(4*(2^A+66))^(m+1)<=2^((A+9)*(n+1)):=by
     refine dz (gB (show 4*(2^A+66)<=2^(A+9) from ?_) _) ?_
     . rw [show A+9=2+(A+7) by omega,eM 2 2];omega
     . rw [<- gL];exact dw oM (dy _ oM)
    have h5:=dx (2^(A+(A+7)*(n+1))) F;rw [<- eM] at h5;have h6:2^((A+9)*(n+1)+(A+(A+7)*(n+1)))<=2^(A+P.length*(2*A+18)):=dw oM (by
     rw [hn,show (n+1)*(2*A+18)=(A+9)*(n+1)+(A+9)*(n+1) by grind,show (A+9)*(n+1)=(A+7)*(n+1)+2*(n+1) by grind];omega)
    rw [dB];omega
  . rw [E k l];exact di _
 refine ⟨(c:Int),oM,?_,fun k=>⟨G k,?_,ae k⟩⟩
 . rw [<- hGm];exact ae m
 . rw [<- M k];rfl
variable {L:List Poly} {d2 s:Poly}
def eB (a:Nat):Nat:=128*(a+9)+1
def fB (a:Nat):Nat:=a+64*(2*a+18)+1
def Mo (p:Poly):Prop:=p=[]\/co p (p.length-1)=1
def Un (p:Poly):Prop:=p=[]\/co p (p.length-1)=1\/co p (p.length-1) = -1
theorem Mo.un (h:Mo p):Un p:=h.imp id .inl
theorem zMv {P c e:Poly} (l:Euc P Q c e) (h:Trimd e) (h1:Un e) (z:CH a P) (A:CH a Q) (C:P.length<=64) (E:Q.length<=64):CH (eB a) e :=
 (euc_ch l h h1 z A oM).le (by
  have:=dx (a+9) (oM:P.length+Q.length<=128);unfold eB;omega)
theorem zIA (h:monic p=some s):Mo s:=by
 have l:=(zBN h).2.1;unfold monic at h;split at h
 . cases h;exact .inl rfl
 . next e =>
   obtain ⟨c,z,h⟩:=cbind h;have h2:=(zBD h).2;refine .inr ?_;rw [l,h2,<- zBM,zFD z];have:=zEM (ze p) e;grind
theorem zDz (h:zCU p=some s):Un s:=by
 have l:=(zAj h).2.1;unfold zCU at h;split at h
 . cases h;exact .inl rfl
 . next e =>
   obtain ⟨c,z,h⟩:=cbind h;have h2:=(zBD h).2;refine .inr ?_;rw [l,h2,<- zBM,zFD z];have:=zEM (ze p) e;unfold rabs;split
   . right;grind
   . left;grind
theorem zRN {f:Poly} {R:Poly×Poly} {t:Rat} (h:pdiv p q=some R) (z:Trimd q) (l:q≠[]) (E:t≠0) (C:Trimd f) (A:∀ k,co f k=co R.2 k*t):Rem p q f:=by
 have h1:=zKu h;have h2:=zBj h;rw [zo z] at h1 h2;have hl:f.length<=R.2.length:=zAr C fun i hi=>by rw [A,co_ge hi,dO]
 refine ⟨R.1,1/t,gR,fun x => ?_,oM,z,l⟩;rw [zEN A,zKP (p:=prod R.1 q) (q:=R.2) fun k=>by rw [zCp,h1],zAY];grind
theorem zKG {l z:Poly} {a B:Nat} (H:eB a<=B) (hM:300*B<1099511627776) (I:CH a l) (J:CH a z) (M:l.length<=64) (Z:z.length<=64):∀ {f:Nat} {p q:Poly},q.length<f->Trimd p->Trimd q->p.length<=64->q.length<=64->CH B p->CH B q->Mo p->Mo q ->
 ((p=l/\q=z)\/Euc l z p q)->∃ g,zBT f p q=some g/\CH B g/\Mo g
 | 0,_,_,h,_,_,_,_,_,_,_,_,_=>absurd h oM
 | f+1,p,q,hf,hp,A,lp,lq,cp,cq,mp,mq,he=>by
  unfold zBT;by_cases e:q=[]
  . exact ⟨p,by rw [cD e],cp,mp⟩
  . rw [ct e];have ar:=dx B (oM:p.length+1-q.length<=65);obtain ⟨R,E,_,r3⟩:=zKt hp A e cp cq oM;have hrem:=zBj E;rw [zo A] at hrem;obtain ⟨m,C,_⟩:=zHz hrem.2.2.1 r3 oM;obtain ⟨F,m4,t,ht,m5⟩:=zBN C;rw [zo hrem.2.2.1] at m4;have hR:=zRN E A e ht F m5;have hE:Euc l z q m:=he.elim (fun h=>by rw [<- h.1,<- h.2];exact .one hR) fun h=>h.snoc hR;have cm:=(zMv hE F (zIA C).un I J M Z).le H;obtain ⟨g,g1,g2,g3⟩:=zKG H hM I J M Z (f:=f) (p:=q) (q:=m) oM A F lq oM cq cm mq (zIA C) (.inr hE);exact ⟨g,by rw [E];show (monic R.2).bind _=_;rw [C];exact g1,g2,g3⟩
theorem zFL (l:Trimd p) (z:Trimd q) (lp:p.length<=64) (lq:q.length<=64) (h1:CH a p) (F:CH a q) (H:300*eB a<1099511627776):∃ g,zBt p q=some g/\CH (eB a) g/\Mo g:=by
 have A:a<=eB a:=by unfold eB;omega
 obtain ⟨P,h,C⟩:=zHz l h1 oM;obtain ⟨Q,q1,E⟩:=zHz z F oM;obtain ⟨I,J,_⟩:=zBN h;obtain ⟨M,Z,_⟩:=zBN q1;rw [zo l] at J;rw [zo z] at Z;obtain ⟨g,g1,g2⟩:=zKG (cX _) H C E oM oM (f:=Q.length+1) oM I M oM oM (C.le A) (E.le A) (zIA h) (zIA q1) (.inl ⟨rfl,rfl⟩);refine ⟨g,?_,g2⟩;unfold zBt;rw [h];show (monic q).bind _=_;rw [q1];exact g1
theorem zIa {z A:Poly} {a B:Nat} (M:eB a<=B) (hM:300*B<1099511627776) (Z:CH a z) (hQ:CH a A) (lP:z.length<=64) (lQ:A.length<=64):∀ {f:Nat} {p q:Poly},q.length+1<f->Trimd p->Trimd q->p.length<=64->q.length<=64->CH B p->CH B q->Un p->Un q ->
 ((p=z/\q=A)\/Euc z A p q)->∃ L,zBe f p q=some L/\∀ c,c∈L->CH B c/\c.length<=64
 | 0,_,_,h,_,_,_,_,_,_,_,_,_=>absurd h oM
 | f+1,p,q,hf,hp,C,lp,lq,F,cq,mp,mq,he=>by
  unfold zBe;by_cases e0:p=[]
  . exact ⟨[],by rw [cD e0],fun c l=>by simp at l⟩
  rw [ct e0];by_cases e:q=[]
  . exact ⟨[p],by rw [cD e],fun c l=>by rw [dI.1 l];exact ⟨F,lp⟩⟩
  . rw [ct e];have aw:=dx B (oM:p.length+1-q.length<=65);obtain ⟨R,H,_,r3⟩:=zKt hp C e F cq oM;have hrem:=zBj H;rw [zo C] at hrem;obtain ⟨s,I,s2⟩:=zIG r3 oM;have s3:=zEY I hrem.2.2.1 dE;have s4:=zBD I;obtain ⟨m,E,_⟩:=zFa s4.1 s2 oM;obtain ⟨J,m4,t,ht,m5⟩:=zAj E;rw [zo s4.1] at m4;have hR:=zRN H C e (t := -t) gR J fun k=>by rw [m5,s4.2];grind
    have hE:Euc z A q m:=he.elim (fun h=>by rw [<- h.1,<- h.2];exact .one hR) fun h=>h.snoc hR;have cm:=(zMv hE J (zDz E) Z hQ lP lQ).le M;obtain ⟨L,g1,g2⟩:=zIa M hM Z hQ lP lQ (f:=f) (p:=q) (q:=m) oM C J lq oM cq cm mq (zDz E) (.inr hE);refine ⟨p :: L,?_,fun c l => ?_⟩
    . rw [H];show (zDg R.2 (-1)).bind _=_;rw [I];show (zCU s).bind _=_;rw [E];show (zBe f q m).bind _=_;rw [g1];rfl
    . rcases eY.1 l with rfl | l
      . exact ⟨F,lp⟩
      . exact g2 c l
theorem zHp (l:Trimd p) (z:Trimd q) (lp:p.length<=64) (lq:q.length<=64) (h1:CH a p) (F:CH a q) (H:300*eB a<1099511627776):∃ L,chain p q=some L/\∀ c,c∈L->CH (eB a) c/\c.length<=64:=by
 have A:a<=eB a:=by unfold eB;omega
 obtain ⟨P,h,C⟩:=zFa l h1 oM;obtain ⟨Q,q1,E⟩:=zFa z F oM;obtain ⟨I,J,_⟩:=zAj h;obtain ⟨M,Z,_⟩:=zAj q1;rw [zo l] at J;rw [zo z] at Z;obtain ⟨g,g1,g2⟩:=zIa (cX _) H C E oM oM (f:=Q.length+2) oM I M oM oM (C.le A) (E.le A) (zDz h) (zDz q1) (.inl ⟨rfl,rfl⟩);refine ⟨g,?_,g2⟩;unfold chain;rw [h];show (zCU q).bind _=_;rw [q1];exact g1
def Fac (g p:Poly):Prop:=∃ h:Poly,∀ x,ev p x=ev g x*ev h x
theorem Fac.refl (g:Poly):Fac g g:=⟨[1],fun x=>by show _=_*(1+x*0);grind⟩
theorem Fac.nil (g:Poly):Fac g []:=⟨[],fun x=>by show (0:Rat)=_*0;grind⟩
theorem Fac.trans {a b c:Poly} (h:Fac a b) (k:Fac b c):Fac a c:=by
 obtain ⟨u,l⟩:=h;obtain ⟨v,z⟩:=k;exact ⟨prod u v,fun x=>by rw [z,l,zAY];grind⟩
theorem Fac.comb {g r:Poly} {u v:Poly} (h:Fac g p) (k:Fac g q) (e:∀ x,ev r x=ev u x*ev p x+ev v x*ev q x):Fac g r:=by
 obtain ⟨a,l⟩:=h;obtain ⟨b,z⟩:=k;exact ⟨addl (prod u a) (prod v b),fun x=>by rw [e,l,z,zBI,zAY,zAY];grind⟩
theorem zFR (x:Rat):ev [1] x=1:=by show (1:Rat)+x*0=1;grind
theorem ev_c (c x:Rat):ev [c] x=c:=by show c+x*0=c;grind
theorem zLk (x:Rat):ev [] x=0:=rfl
theorem zKH:∀ {f:Nat} {p q g:Poly},zBT f p q=some g->Trimd p->Trimd q->Fac g p/\Fac g q/\∃ s t:Poly,∀ x,ev g x=ev s x*ev p x+ev t x*ev q x
 | 0,_,_,_,h,_,_=>by cases h
 | f+1,p,q,g,h,M,l=>by
  unfold zBT at h;split at h
  . next e=>cases h;subst e;exact ⟨.refl _,.nil _,[1],[],fun x=>by rw [zFR,zLk];grind⟩
  . next e =>
    obtain ⟨R,C,h⟩:=cbind h;obtain ⟨m,E,h⟩:=cbind h;obtain ⟨F,Z,t,ht,H⟩:=zBN E;obtain ⟨z,I,u,v,J⟩:=zKH h l F;have h1:=zKu C;rw [zo l] at h1;have h2:∀ x,ev p x=ev R.1 x*ev q x+ev R.2 x:=fun x=>by rw [zKP (p:=prod R.1 q) (q:=R.2) fun k=>by rw [zCp,h1],zAY]
    have A:∀ x,ev m x=ev R.2 x*t:=zEN H;refine ⟨.comb z I (u:=R.1) (v:=[1/t]) fun x => ?_,z,prod v [t],addl u (prod (prod v [t]) (R.1.map (· * (-1)))),fun x => ?_⟩
    . rw [ev_c,h2,A];grind
    . rw [zBI,zAY,zAY,zAY,zBK,ev_c,J,A,h2];grind
theorem zET {g:Poly} (h:zBt p q=some g):Fac g p/\Fac g q/\∃ s t:Poly,∀ x,ev g x=ev s x*ev p x+ev t x*ev q x:=by
 obtain ⟨P,l,h⟩:=cbind h;obtain ⟨Q,z,h⟩:=cbind h;obtain ⟨A,_,t,J,C⟩:=zBN l;obtain ⟨q1,_,u,M,E⟩:=zBN z;obtain ⟨F,H,a,b,I⟩:=zKH h A q1;have hp:=zEN C;have hq:=zEN E;refine ⟨.comb F (.nil g) (u:=[1/t]) (v:=[]) fun x => ?_,.comb H (.nil g) (u:=[1/u]) (v:=[]) fun x => ?_,prod a [t],prod b [u],fun x => ?_⟩
 . rw [ev_c,hp,zLk];grind
 . rw [ev_c,hq,zLk];grind
 . rw [zAY,zAY,ev_c,ev_c,I,hp,hq];grind
theorem zHW {r:Poly} (h:∀ x,ev p x=ev q x*ev r x) (C:Trimd p) (A:p≠[]) (H:Trimd q) (I:Trimd r) :
 q≠[]/\r≠[]/\p.length+1=q.length+r.length/\co p (p.length-1)=co q (q.length-1)*co r (r.length-1):=by
 obtain ⟨y,_,_,E⟩:=zIC C A (u:=0) (v:=1) dE;have l:q≠[]:=fun e=>E (by rw [h,e,zLk];grind);have z:r≠[]:=fun e=>E (by rw [h,e,zLk];grind);have lq:=zz l;have lr:=zz z;have hk:∀ k,co p k=conv q r k:=fun k=>by rw [ev_co (q:=prod q r) (fun x=>by rw [h,zAY]) k,zCp]
 have F:=zMr r q (q.length-1) (r.length-1) oM oM;have hl:=zCR C (n:=q.length-1+(r.length-1)) (by
  rw [hk,F];have:=zBn H l;have:=zBn I z;grind) fun i hi=>by rw [hk,zKK _ _ _ oM]
 refine ⟨l,z,oM,?_⟩;rw [hl,dD,hk,F]
theorem zKR {P g:Poly} (H:CH a P) (A:Trimd P) (z:P≠[]) (E:P.length<=64) (I:Trimd g) (J:Mo g) (h:Fac g P):CH (fB a) g/\g.length<=P.length/\g≠[]:=by
 obtain ⟨h,F⟩:=h;obtain ⟨C,t0,l,_⟩:=zHW (r:=trim h) (fun x=>by rw [zDm];exact F x) A z I (ze h);have lg:=zz C;have lt:=zz t0;have lP:=zz z;refine ⟨(factor_ch (n:=P.length-1) (m:=g.length-1) H oM (zBn A z) oM (J.resolve_left C) oM F E).le ?_,oM,C⟩;have:=dx (2*a+18) E;unfold fB;omega
theorem zGj {r:Poly} (h:zCO p q=some r) (l:Trimd q) (C:Fac q p):∀ x,ev p x=ev q x*ev r x:=by
 obtain ⟨R,z,rfl⟩:=cmap h;obtain ⟨u,A⟩:=C;have h1:=zKu z;have h2:=zBj z;rw [zo l] at h1 h2;have h3:∀ x,ev p x=ev R.1 x*ev q x+ev R.2 x:=fun x=>by rw [zKP (p:=prod R.1 q) (q:=R.2) fun k=>by rw [zCp,h1],zAY]
 have E:∀ x,ev (addl u (R.1.map (· * (-1)))) x=0:=by
  rcases zQc (u:=addl u (R.1.map (· * (-1)))) (r:=R.2) (n:=R.2.length) l h2.1 (fun x=>by rw [zBI,zBK];have:=A x;have:=h3 x;grind) fun k hk=>co_ge hk with h | h
  . exact h
  . exact zFm oM
 intro x;have:=E x;rw [zBI,zBK] at this;rw [A,show ev R.1 x=ev u x by grind]
theorem zON {r:Poly} (h:zCO p q=some r) (F:Trimd p) (z:p≠[]) (A:Trimd q) (I:Fac q p) (C:Mo p) (E:Mo q):Trimd r/\r≠[]/\Mo r/\Fac r p:=by
 have h1:=zGj h A I;have H:=(zCh h F A).1;obtain ⟨q0,J,_,l⟩:=zHW h1 F z A H;refine ⟨H,J,.inr ?_,q,fun x=>by rw [h1];grind⟩;rw [C.resolve_left z,E.resolve_left q0] at l;grind
theorem zLv (h:CH a p) (H:p.length<=64) (I:4*a+64<1099511627776):∃ r,zCN p=some r/\CH (a+6) r:=by
 obtain ⟨s,C⟩:=zKM (p:=p) (i:=0) (a:=a) oM (fun k=>h.sz k) oM;obtain ⟨D,h⟩:=h;have A:zCN p=some (trim s):=by unfold zCN;rw [C];rfl
 have l:2^(a+6)=64*2^a:=by rw [eM];omega
 refine ⟨trim s,A,D,h.1,by have:=h.2.1;omega,fun k => ?_⟩;rw [(zBC A).2];by_cases e:k+1<64
 . obtain ⟨z,E,F⟩:=h.2.2 (k+1);refine ⟨z*((k+1:Nat):Int),?_,?_⟩
   . rw [dH,<- E,Rat.intCast_natCast];grind
   . rw [ey,gW,l];have:=fs F (oM:k+1<=64);rw [dt] at this;omega
 . exact ⟨0,by rw [co_ge oM];simp [dO],sM⟩
theorem zLw {x d:Poly} (l:Trimd x) (h:x.length=n+2) (z:zCN x=some d):d.length=n+1:=by
 obtain ⟨d1,d2⟩:=zBC z;refine zCR d1 ?_ fun i hi => ?_
 . rw [d2];have h1:=l (n+1) h;have h2:((n+1:Nat):Rat)≠0:=by
    have:0<((n+1:Nat):Rat):=Rat.natCast_pos.2 oM;grind
   grind
 . rw [d2,co_ge oM,dO]
theorem zEj {x d:Poly} (h:zCN x=some d):d.length<=x.length:=zAr (zBC h).1 fun i hi=>by rw [(zBC h).2,co_ge oM,dO]
theorem zNH {P g:Poly} (z:∀ q,Trimd q->Mo q->Fac q P->CH b q/\q.length<=64/\q≠[]) (M:300*eB (b+6)<1099511627776) (h:Trimd g) (Z:Mo g) (A:Fac g P) :
 ∃ d k s d2 L,zCN g=some d/\zBt g d=some k/\zCO g k=some s/\zCN s=some d2/\chain s d2=some L/\CH (b+6) d/\Trimd k/\Mo k/\Fac k g/\Trimd s/\Mo s/\s≠[]/\Fac s g/\CH (b+6) d2/\(∀ c,c∈L->CH (eB (b+6)) c/\c.length<=64):=by
 obtain ⟨C,lg,g0⟩:=z g h Z A;have hb:b+6<=eB (b+6):=by unfold eB;omega
 obtain ⟨d,d1,d2⟩:=zLv C lg oM;have d3:=(zBC d1).1;have d4:=zEj d1;obtain ⟨k,E,k2,F⟩:=zFL h d3 lg oM (C.le oM) d2 M;have l:=zDD E h d3;obtain ⟨H,_⟩:=zET E;obtain ⟨ck,lk,k0⟩:=z k l.1 F (H.trans A);have h65:=dx b (oM:g.length+1-k.length<=65);obtain ⟨s,s1,_⟩:=zIF h l.1 k0 C ck oM;obtain ⟨I,s0,s3,s4⟩:=zON s1 h g0 l.1 H Z F;obtain ⟨cs,ls,_⟩:=z s I s3 (s4.trans A);obtain ⟨e,J,e2⟩:=zLv cs ls oM;have e3:=(zBC J).1;have e4:=zEj J;obtain ⟨L,l1,l2⟩:=zHp I e3 ls oM (cs.le oM) e2 M;exact ⟨d,k,s,e,L,d1,E,s1,J,l1,d2,l.1,F,H,I,s3,s0,s4,e2,l2⟩
theorem own_eq {g d k:Poly} (h1:zCN g=some d) (h:zBt g d=some k) (l:zCO g k=some s) (z:zCN s=some d2) (A:chain s d2=some L):own g=some L:=by
 unfold own zRc;rw [h1];show ((zBt g d).bind fun C=>zCO g C).bind _=_;rw [h];show (zCO g k).bind _=_;rw [l];show (zCN s).bind _=_;rw [z];exact A
theorem zJB {P:Poly} {b:Nat} (A:∀ q,Trimd q->Mo q->Fac q P->CH b q/\q.length<=64/\q≠[]) (C:300*eB (b+6)<1099511627776):∀ {f:Nat} {g:Poly} {m:Int},g.length<f->Trimd g->Mo g->Fac g P->∃ t,zJY f g m=some t
 | 0,_,_,h,_,_,_=>absurd h oM
 | f+1,g,m,hf,l,F,E=>by
  unfold zJY;rw [zo l];by_cases e:g.length<=1
  . exact ⟨m,by rw [cD e]⟩
  . rw [ct e];obtain ⟨d,k,s,d2,L,h1,z,H,I,J,_,M,Z,k3,_⟩:=zNH A C l F E;have hd:=zLw l (n:=g.length-2) oM h1;have hk:=(zDD z l (zBC h1).1).2.2.1 fun e=>by rw [e] at hd;simp at hd
    obtain ⟨t,ht⟩:=zJB A C (f:=f) (g:=k) (m:=m+(zAv true L-zAv false L)) oM M Z (k3.trans E);refine ⟨t,?_⟩;rw [own_eq h1 z H I J];show (zCN g).bind _=_;rw [h1];show (zBt g d).bind _=_;rw [z];exact ht
theorem ch_neg (h:CH a p) (e:∀ k,co q k = - co p k):CH a q:=by
 obtain ⟨D,h⟩:=h;refine ⟨D,h.1,h.2.1,fun k => ?_⟩;obtain ⟨z,l,A⟩:=h.2.2 k;exact ⟨-z,by rw [e,fQ,<- l];grind,by rw [fx];exact A⟩
theorem zTh (h:1<=a):CH a []:=⟨1,CHD.nil dE (by
 have:=dw (oM:0<2) h;show 2*1<=_;omega) fun k=>rfl⟩
theorem fac_chU {P g:Poly} (C:CH a P) (l:Trimd P) (z:P≠[]) (E:P.length<=64) (F:Trimd g) (H:Un g) (h:Fac g P):CH (fB a) g/\g.length<=P.length:=by
 rcases H with e | e | e
 . subst e;exact ⟨zTh (by unfold fB;omega),di _⟩
 . have:=zKR C l z E F (.inr e) h;exact ⟨this.1,this.2.1⟩
 . have A:∀ k,co (g.map (· * (-1))) k = - co g k:=fun k=>by rw [zBf];grind
   have I:Trimd (g.map (· * (-1))):=fun n hn=>by
    rw [dJ] at hn;have:=F n hn;rw [A];grind
   obtain ⟨u,J⟩:=h;have:=zKR C l z E I (.inr (by rw [dJ,A,e];decide)) ⟨u.map (· * (-1)),fun x=>by rw [zBK,zBK,J];grind⟩
   refine ⟨ch_neg this.1 fun k=>by rw [A];grind,by have:=this.2.1;rw [dJ] at this;exact this⟩
theorem quo_ch {x g y Y:Poly} (F:Trimd x) (J:x.length<=64) (M:CH a x) (l:Trimd g) (H:Fac g x) (A:zCO x g=some y) (I:zCU y=some Y):CH (fB a) Y/\Y.length<=64:=by
 obtain ⟨Z,y2⟩:=zCh A F l;obtain ⟨Y1,E,t,ht,Y3⟩:=zAj I;rw [zo Z] at E;by_cases e:x=[]
 . have h:y=[]:=by
    have h1:=zGj A l H;subst e;refine fH fun h => ?_;obtain ⟨R,hR,rfl⟩:=cmap A;have C:=zBj hR;rw [zo l] at C;have:=zz C.1;have:([]:Poly).length=0:=rfl;exact h (zAd oM)
   rw [h] at E;rw [zAd E];exact ⟨zTh (by unfold fB;omega),sM⟩
 . have h1:=zGj A l H;have C:=zEN Y3;have h3:=fac_chU M F e J Y1 (zDz I) ⟨g.map (· * (1/t)),fun z=>by rw [zBK,h1,C];grind⟩
   exact ⟨h3.1,oM⟩
theorem zNw {P:Poly} (h:zCU p=some P) (l:zCU q=some Q) (z:P.length<=64) (A:Q.length<=64) (h1:CH a P) (C:CH a Q) (F:300*eB a<1099511627776):∃ L,chain p q=some L/\∀ c,c∈L->CH (eB a) c/\c.length<=64:=by
 have E:a<=eB a:=by unfold eB;omega
 obtain ⟨L,H,I⟩:=zIa (cX _) F h1 C z A (f:=Q.length+2) oM (zAj h).1 (zAj l).1 z A (h1.le E) (C.le E) (zDz h) (zDz l) (.inl ⟨rfl,rfl⟩);refine ⟨L,?_,I⟩;unfold chain;rw [h];show (zCU q).bind _=_;rw [l];exact H
theorem routh_ex2 {A:Nat} (hp:Trimd p) (ao:p≠[]) (hl:p.length<=64) (hM:300*eB (fB A+6)<1099511627776) (aM:8*(A+65*eB A)<1099511627776) (h:CH A p):∃ r,zJT p=some r:=by
 obtain ⟨n,hn⟩:∃ n,p.length=n+1:=⟨p.length-1,by have:=zz ao;omega⟩;obtain ⟨⟨re,im⟩,F⟩:=zNr (B:=2*A) (l:=p.reverse) (re:=[]) (im:=[]) (j:=0) oM (fun c hc=>by
  obtain ⟨k,e⟩:=mem_co (List.mem_reverse.1 hc);rw [<- e];exact h.sz k) (fun k=>by rw [zAa,zDp];omega) (fun k=>by rw [zAa,zDp];omega) sM sM (by simp;omega)
 have F:along p [] [0,1]=some (re,im):=F;obtain ⟨t1,t2,a1,a2⟩:=zQQ F;simp only at t1 t2 a1 a2;obtain ⟨c,d,H,hs⟩:=zMx hp hn t1 t2 a1 a2;have hlen:=H.lP;have hlq:(if n%2=0 then im else re).length<=n:=by rw [H.lQ];exact H.lb
 have ae:∀ {x:Poly},(∀ t,co x t=co p t\/co x t = - co p t\/co x t=0)->CH A x:=fun {x} hx=>by
  obtain ⟨D,h⟩:=h;refine ⟨D,h.1,h.2.1,fun k => ?_⟩;obtain ⟨z,z1,z2⟩:=h.2.2 k;rcases hx k with e | e | e
  . exact ⟨z,by rw [e];exact z1,z2⟩
  . exact ⟨-z,by rw [e,fQ,<- z1];grind,by rw [fx];exact z2⟩
  . exact ⟨0,by rw [e,dO];rfl,sM⟩
 have I:∀ t,alt t*co p t=co p t\/alt t*co p t = - co p t:=fun t=>by
  unfold alt;split
  . left;rw [gZ]
  . right;grind
 have M:=ae (x:=re) fun t=>by
  rw [a1];split
  . exact (I t).imp id .inl
  . exact .inr (.inr rfl)
 have Z:=ae (x:=im) fun t=>by
  rw [a2];split
  . exact (I t).imp id .inl
  . exact .inr (.inr rfl)
 have ap:re.length<=n+1:=by
  by_cases e:n%2=0
  . rw [cD e] at hlen;omega
  . rw [ct e] at hlq;omega
 have aq:im.length<=n+1:=by
  by_cases e:n%2=0
  . rw [cD e] at hlq;omega
  . rw [ct e] at hlen;omega
 have aN:A<=fB A:=by unfold fB;omega
 have aO:eB A<=eB (fB A+6):=by unfold eB;omega
 have aH:eB (fB A)<=eB (fB A+6):=by unfold eB;omega
 have aP:fB A+6<=eB (fB A+6):=by unfold eB;omega
 -- the zBt divisor
 obtain ⟨g,aa,ar,ah⟩:=zFL t1 t2 oM oM M Z oM;obtain ⟨J,g2,g3,g4⟩:=zDD aa t1 t2;obtain ⟨f1,f2,_⟩:=zET aa;have ab:∃ ax,times g=some ax:=by
  by_cases e:n%2=0
  . rw [cD e] at hlen;exact zJB (fun q h1 h2 h3=>by have:=zKR M t1 (fun h=>by rw [h] at hlen;cases hlen) oM h1 h2 h3;exact ⟨this.1,oM,this.2.2⟩) hM oM J ah f1
  . rw [ct e] at hlen;exact zJB (fun q h1 h2 h3=>by have:=zKR Z t2 (fun h=>by rw [h] at hlen;cases hlen) oM h1 h2 h3;exact ⟨this.1,oM,this.2.2⟩) hM oM J ah f2
 obtain ⟨ax,ab⟩:=ab;have hg0:g≠[]:=g2 (by
  by_cases e:n%2=0
  . rw [cD e] at hlen;exact .inl fun h=>by rw [h] at hlen;cases hlen
  . rw [ct e] at hlen;exact .inr fun h=>by rw [h] at hlen;cases hlen)
 have aQ:=zz hg0;have hq:∀ {x:Poly},Trimd x->x.length<=n+1->CH A x->Fac g x->∃ y Y,zCO x g=some y/\zCU y=some Y/\CH (fB A) Y/\Y.length<=64:=fun {x} hx hxl ai au=>by
  have hb:=dx (eB A) (oM:x.length+1-g.length<=65);obtain ⟨y,y1,y2⟩:=zIF hx J hg0 ai ar oM;obtain ⟨Y,Y1,_⟩:=zFa (zCh y1 hx J).1 y2 oM;exact ⟨y,Y,y1,Y1,quo_ch hx oM ai J au y1 Y1⟩
 obtain ⟨C,Re,r1,R1,R2,R3⟩:=hq t1 ap M f1;obtain ⟨E,Im,i1,I1,I2,I3⟩:=hq t2 aq Z f2;obtain ⟨r3,r4⟩:=zCh r1 t1 J;obtain ⟨i3,i4⟩:=zCh i1 t2 J;have hL:∃ L,chain (if decide (E.length<C.length)=true then C else E) (if decide (E.length<C.length)=true then E else C)=some L:=by
  by_cases e:decide (E.length<C.length)=true
  . rw [cD e,cD e];obtain ⟨L,h1,_⟩:=zNw R1 I1 R3 I3 R2 I2 oM;exact ⟨L,h1⟩
  . rw [ct e,ct e];obtain ⟨L,h1,_⟩:=zNw I1 R1 I3 R3 I2 R2 oM;exact ⟨L,h1⟩
 obtain ⟨L,hL⟩:=hL;refine ⟨(half2 (((trim g).length:Int)-1-ax)+half2 (max (C.length:Int) E.length-1-(if decide (E.length<C.length)=true then -1 else 1)*(zAv true L-zAv false L)),ax),?_⟩;unfold zJT;rw [zo hp,F];show ((zBt re im).bind _)=_;rw [aa];show ((times g).bind _)=_;rw [ab];show ((zCO re g).bind _)=_;rw [r1];show ((zCO im g).bind _)=_;rw [i1];show ((chain _ _).bind _)=_;rw [hL];rfl
def CM (b:Nat) (p:Poly):Prop:=∃ (w:Nat->Int) (m:Rat),m≠0/\(∀ k,co p k*m=w k)/\∀ k,2*(w k).natAbs<=2^b
def SzL (l:Nat) (x:Rat):Prop:=∃ z d:Int,d≠0/\x*d=z/\2*z.natAbs<=2^l/\2*d.natAbs<=2^l
theorem CM.le (h:CM a p) (l:a<=b):CM b p:=by
 obtain ⟨w,m,h1,z,A⟩:=h;exact ⟨w,m,h1,z,fun k=>dz (A k) (dw oM l)⟩
theorem SzL.le (h:SzL a x) (l:a<=b):SzL b x:=by
 obtain ⟨z,d,h1,A,C,E⟩:=h;have e:2^a<=2^b:=dw oM l;exact ⟨z,d,h1,A,dz C e,dz E e⟩
theorem CH.cm (h:CH a p):CM a p:=by
 obtain ⟨D,h⟩:=h;obtain ⟨z,l,A⟩:=zGF h;exact ⟨z,D,zCy h.1,l,A⟩
theorem CH.szl (h:CH a p) (k:Nat):SzL a (co p k):=by
 obtain ⟨D,h⟩:=h;obtain ⟨z,l,A⟩:=h.2.2 k;exact ⟨z,D,h.1,l,A,h.2.1⟩
theorem zSC {w:Int} {m:Rat} (h:x*m=w) (l:x≠0) (z:m≠0):w≠0:=fun e=>by
 rw [e] at h;have:x*m=0:=h;grind
theorem cm_ch {l:Nat} (h:CM b p) (E:co p n≠0) (F:SzL l (co p n)):CH (l+b) p:=by
 obtain ⟨w,m,h1,A,C⟩:=h;obtain ⟨z,d,d0,H,I,J⟩:=F;have hw:=zSC (A n) E h1;have hwc:=zCy hw;refine ⟨d*w n,iz d0 hw,?_,fun k=>⟨z*w k,?_,?_⟩⟩
 . have:=zCg J (C n);rw [<- ey] at this;omega
 . rw [dH,dH,<- H,<- A k,<- A n];grind
 . have:=zCg I (C k);rw [<- ey] at this;omega
theorem half_mul' {x y:Nat} (h:2*x<=2^a) (l:2*y<=2^b):2*(x*y)<=2^(a+b):=by
 have:=zCg h l;omega
theorem zSD {l:Nat} (Z:CM b p) (hq:CM b q) (hn:co p n≠0) (hm:co q m≠0) (hs:SzL l (co p n)) (i j:Nat) (z:Bool) :
 SzL (l+2*b+1) (co p i-if z then 0 else co q j*(co p n/co q m)):=by
 obtain ⟨w,s,h1,h,A⟩:=Z;obtain ⟨v,t,k1,C,E⟩:=hq;obtain ⟨x,d,d0,F,H,s3⟩:=hs;have I:=zSC (h n) hn h1;have J:=zSC (C m) hm k1;have hwc:=zCy I;have hvc:=zCy J;have hdc:=zCy d0;have hp1:2^(l+2*b+1)=2*2^(l+(b+b)):=by rw [show l+2*b+1=(l+(b+b))+1 by omega,dB];omega
 have M:co p i*((d:Rat)*w n)=x*w i:=by
  have a1:=h i;have a2:=h n;rw [<- a1,<- a2,<- F];grind
 have e2:co q j*(co p n/co q m)*((d:Rat)*v m)=x*v j:=by
  have a1:=C j;have a2:=C m;rw [<- a1,<- a2,<- F];grind
 have n1:=zCg s3 (half_mul' (A n) (E m));have n2:=zCg H (half_mul' (A i) (E m));have n3:=zCg H (half_mul' (E j) (A n));rw [<- ey,<- ey] at n1 n2 n3;refine ⟨x*(w i*v m)-(if z then 0 else x*(v j*w n)),d*(w n*v m),iz d0 (iz I J),?_,?_,oM⟩
 . cases z
   . show (co p i-co q j*(co p n/co q m))*_=_;simp only [ew,fY];rw [Rat.intCast_sub,dH,dH,dH,dH,dH,dH];have:(co p i-co q j*(co p n/co q m))*((d:Rat)*((w n:Rat)*(v m:Rat)))=co p i*((d:Rat)*w n)*v m-co q j*(co p n/co q m)*((d:Rat)*v m)*w n:=by grind
     rw [this,M,e2];grind
   . show (co p i-0)*_=_;simp only [ga];rw [Int.sub_zero,dH,dH,dH,dH];have:(co p i-0)*((d:Rat)*((w n:Rat)*(v m:Rat)))=co p i*((d:Rat)*w n)*v m:=by grind
     rw [this,M];grind
 . cases z
   . simp only [ew,fY];omega
   . simp only [ga];omega
theorem zOS {a0 b0:Poly} {A B:Nat} (h1:CH A a0) (h2:CH A b0) (l1:a0.length<=64) (l2:b0.length<=64) (hB:eB A<=B) (hM:3000*B<1099511627776):∀ {n i:Nat} {a b:Poly},Trimd a->Trimd b->a.length=n+1->n+i<=64->CM B a->CM B b->SzL (A+i*(2*B+1)) (co a n)->SzL (A+i*(2*B+1)) (co b (n-1)) ->
 ((a=a0/\b=b0)\/Euc a0 b0 a b)->∃ F,fracL n a b=some F/\∀ l,F=some l->l.length=n/\∀ q,q∈l->sz q<=600*B
 | 0,_,_,_,_,_,_,_,_,_,_,_,_=>⟨some [],rfl,fun l h=>by cases h;exact ⟨rfl,fun q hq=>by simp at hq⟩⟩
 | n+1,i,a,b,ha,hb,hl,hn,ca,cb,sa,sb,hE=>by
  unfold fracL;by_cases e:b.length+1≠a.length
  . exact ⟨none,by rw [cD e],fun l h=>by cases h⟩
  . rw [ct e];have hbl:b.length=n+1:=by omega
    have hb0:b≠[]:=fun h=>by rw [h] at hbl;simp at hbl
    have hat:=ha (n+1) hl;have hbt:=hb n hbl
    have hAB : A ≤ B := by have : A ≤ eB A := by unfold eB; omega
                           omega
    have hi:=dx (2*B+1) (oM:i<=63);generalize hX:A+i*(2*B+1)+B=X;have hXb:X<=130*B+63:=oM
    have hB1:1153<=B:=by unfold eB at hB;omega
    have cA:=cm_ch ca hat sa;have cB:=cm_ch cb hbt (by rw [dD] at sb;exact sb);rw [hX] at cA cB;obtain ⟨D,cA⟩:=cA;obtain ⟨E,cB⟩:=cB;obtain ⟨w,hw,hw0,hw2,d1,d2,⟨z,z1,z2⟩,d3⟩:=zJh (m:=a.length-1) (n:=b.length-1) cA cB (zBn hb hb0);have hq:sz (co a (a.length-1)/co b (b.length-1))<=2*(X+X):=sz_of (a:=X+X) d2 z1 oM oM;have hdiv:rdiv (top a) (top b)=some (co a (a.length-1)/co b (b.length-1)):=zGm (by
     have e1:=cA.sz (a.length-1);have e2:=cB.sz (b.length-1);rw [zBM,zBM];omega)
    have hbq:∀ k,sz (co b k*(co a (a.length-1)/co b (b.length-1)))<=2*(X+X):=fun k=>by
     obtain ⟨z,z1,z2⟩:=d3 k;rw [Rat.mul_comm];exact sz_of (a:=X+X) d2 z1 oM oM
    obtain ⟨m,hm⟩:=zNM (p:=b) (x:=co a (a.length-1)/co b (b.length-1)) (u:=2*X) (v:=2*(X+X)) (y:=2*(X+X)) oM oM hq (fun k=>cB.sz k) hbq oM;have cm:∀ k,co m k=if k=0 then 0 else co b (k-1)*(co a (a.length-1)/co b (b.length-1)):=fun k=>by rw [(zDA hm).2,zFM]
    obtain ⟨c,hc⟩:=zTF (p:=a) (q:=m) (u:=2*X) (v:=2*(X+X)) oM (fun k=>cA.sz k) (fun k=>by
     rw [cm];split
     . rw [zDp];omega
     . exact hbq _)
    have hcc:∀ k,co c k=co a k-if k=0 then 0 else co b (k-1)*(co a (n+1)/co b n):=fun k=>by rw [(zEH hc).2,cm,hl,hbl,dD,dD]
    have hct:=(zEH hc).1;have hcl:c.length<=n+1:=zAr hct fun k hk=>by
     rw [hcc,ct oM];by_cases ek:k=n+1
     . subst ek;rw [dD];grind
     . rw [co_ge (l:=a) oM,co_ge (l:=b) oM,dO];grind
    -- the lengths: c is shorter than b, or the next step ends
    by_cases hcn:n+1<=c.length
    . -- not shorter than b: the next step has no form
      cases n with
      | zero =>
       refine ⟨some [co a (a.length-1)/co b (b.length-1)],?_,fun l hl' => ?_⟩
       . rw [hdiv];show ((pmul b [0,_]).bind _)=_;rw [hm];show ((psub a m).bind _)=_;rw [hc];rfl
       . cases hl';refine ⟨rfl,fun q hq' => ?_⟩;rw [dI.1 hq'];omega
      | succ n =>
       refine ⟨none,?_,fun l h=>by cases h⟩;rw [hdiv];show ((pmul b [0,_]).bind _)=_;rw [hm];show ((psub a m).bind _)=_;rw [hc];show ((fracL (n+1) b c).map _)=_;unfold fracL;rw [cD oM];rfl
    . have hR:Rem a b c:=by
       refine ⟨[0,co a (n+1)/co b n],1,dE,fun x => ?_,oM,hb,hb0⟩;rw [zKP (p:=prod b [0,co a (n+1)/co b n]) (q:=c) (r:=a) (fun k=>by rw [zCp,zFM,hcc];grind),zAY];grind
      have hE':Euc a0 b0 b c:=hE.elim (fun h=>by rw [<- h.1,<- h.2];exact .one hR) fun h=>h.snoc hR;have cc:CM B c:=by
       by_cases ec:c=[]
       . exact ⟨fun _=>0,1,dE,fun k=>by rw [ec,zAa,dO];rfl,fun k=>di _⟩
       . obtain ⟨w,m,h3,h4,h5⟩:=zPi hE' ec hct h1 h2 oM;refine ⟨w,m,h3,h4,fun k=>dz (h5 k) (dw oM (dz ?_ hB))⟩;have:=dx (A+9) (oM:a0.length+b0.length<=128);unfold eB;omega
      have hii:A+i*(2*B+1)+2*B+1=A+(i+1)*(2*B+1):=by rw [eF];omega
      have sc:SzL (A+(i+1)*(2*B+1)) (co c (n-1)):=by
       rw [<- hii,hcc];have:=zSD ca cb hat hbt sa (n-1) (n-1-1) (decide (n-1=0));by_cases e0:n-1=0
       . rw [cD e0];rw [cZ e0] at this;exact this
       . rw [ct e0];rw [cU e0] at this;exact this
      obtain ⟨F,hF,hFl⟩:=zOS h1 h2 l1 l2 hB hM (n:=n) (i:=i+1) (a:=b) (b:=c) hb hct hbl oM cb cc (by rw [dD] at sb;exact sb.le oM) sc (.inr hE');refine ⟨F.map (co a (a.length-1)/co b (b.length-1) :: ·),?_,fun l hl => ?_⟩
      rotate_left
      . cases F with
        | none=>cases hl
        | some l0 =>
         cases hl;obtain ⟨k1,k2⟩:=hFl l0 rfl;refine ⟨by rw [et,k1],fun q hq' => ?_⟩;rcases eY.1 hq' with rfl | hq'
         . omega
         . exact k2 q hq'
      rw [hdiv];show ((pmul b [0,_]).bind _)=_;rw [hm];show ((psub a m).bind _)=_;rw [hc];show ((fracL n b c).map _)=_;rw [hF];rfl
theorem hc_all2 {R:Rat} (M:0<R) {P:Poly} {l:List (Rat->Rat)} {c:Rat} (Z:Trimd P) (F:P≠[]) (hL:HC (h0 :: h1 :: l)) (hc:0<c) (sG:SmA G) (e0:∀ x,ev P x=h0 x*G x) (e1:∀ x,f1 x=h1 x*G x)
 (hd:Dv R (ev P) (fun x=>c*f1 x)) {b:Rat} (H:Bd R b) (hr:ev P b≠0) {a:Rat} (E:Bd R a) (A:a<=b) (hl:ev P a≠0):Wd (sgs (h0 :: h1 :: l) b)<=Wd (sgs (h0 :: h1 :: l) a):=by
 obtain ⟨z,am,I⟩:=hc_mono M hL hc sG e0 e1 hd;have key:∀ (n:Nat) a,Bd R a->a<=b->ev P a≠0->b-a<=(n:Rat)*(z/2)->Wd (sgs (h0 :: h1 :: l) b)<=Wd (sgs (h0 :: h1 :: l) a):=by
  intro n
  induction n with
  | zero =>
   intro a E A C h;have h:b-a<=0*(z/2):=h;have:a=b:=gR
   rw [this];exact ia _
  | succ n ih =>
   intro a E A C h;rw [show ((n+1:Nat):Rat)=(n:Rat)+1 from by push_cast;rfl] at h;by_cases e:b<=a+z
   . exact I a b E H A e C hr
   . obtain ⟨x,x1,x2,J⟩:=zIC Z F (u:=a+z/2) (v:=a+z) gR;have bx:Bd R x:=⟨by have:=E.1;grind,by have:=H.2;grind⟩;exact Int.le_trans (ih x bx gR J gR) (I a x E bx gR gR C J)
 obtain ⟨n,hn⟩:=arch ((b-a)/(z/2));refine key n a E A hl ?_;have:=dX (gR:0<=(n:Rat)-(b-a)/(z/2)) (gR:0<=z/2);have:(b-a)/(z/2)*(z/2)=b-a:=gR
 grind
theorem zIJ (h:x≠0):rsign x=1\/rsign x = -1:=(zCF h).imp (·.2) (·.2)
theorem flip2_abs {a b:Int} (h:a=1\/a = -1) (l:b=1\/b = -1):((a-b).natAbs:Int)=2*flip2 a b:=by
 rcases h with rfl | rfl<;>rcases l with rfl | rfl<;>decide
def Fp (L:List (Rat->Rat)):Prop:=∀ x,(∀ f l,L=f :: l->f x≠0)->Wd (sgs L x)=2*flipL (sgs L x) 0 0
theorem zSj (g:Rat->Rat):Fp [g]:=fun x h=>by
 show (0:Int)=2*flipL [rsign (g x)] 0 0;have h1:=zIJ (h g [] rfl);rw [zCe oM,zFC];rfl
theorem zSi {f g:Rat->Rat} {l:List (Rat->Rat)} (z:Fp (g :: l)) (A:f x≠0) (h:g x≠0):Wd (sgs (f :: g :: l) x)=2*flipL (sgs (f :: g :: l) x) 0 0:=by
 have h1:=zIJ A;have h2:=zIJ h;have h3:=z x fun _ _ e=>by cases e;exact h
 rw [zDq,h3,flip2_abs h1 h2];show 2*flip2 _ _+2*flipL (rsign (g x) :: sgs l x) 0 0=2*flipL (rsign (f x) :: rsign (g x) :: sgs l x) 0 0;rw [zCe (s:=rsign (f x)) oM,zFC,zCe oM,zCe oM,zFC];omega
theorem hc_fp {L:List (Rat->Rat)} (J:HC L):Fp L/\Fp L.tail:=by
 induction J with
 | one=>exact ⟨zSj _,fun x _=>rfl⟩
 | two M =>
  refine ⟨fun x h=>zSi (zSj _) (h _ _ rfl) dE,zSj _⟩
 | @step f g h q l c hg M hq H F C =>
  refine ⟨fun x Z => ?_,C.1⟩;have hfx:=Z _ _ rfl;by_cases e:g x=0
  . have he:=F x;rw [e] at he;have I:h x≠0:=fun e2=>hfx (by rw [he,e2];grind);have hs:(rsign (f x)=1/\rsign (h x) = -1)\/(rsign (f x) = -1/\rsign (h x)=1):=by
     rcases zCF I with ⟨h1,A⟩ | ⟨h1,A⟩
     . right;refine ⟨zBk ?_,A⟩;have:=fh H h1;grind
     . left;refine ⟨zBl ?_,A⟩;have:=fh H (gR:0 < -h x);grind
    have E:=C.2 x fun _ _ e=>by cases e;exact I
    have E:Wd (sgs (h :: l) x)=2*flipL (rsign (h x) :: sgs l x) 0 0:=E;have e0:rsign (g x)=0:=by rw [e];rfl
    rw [zDq,zDq,E,e0];show _=2*flipL (rsign (f x) :: rsign (g x) :: rsign (h x) :: sgs l x) 0 0;have hz:∀ (l:List Int) (z n:Int),flipL (0 :: l) z n=flipL l z n:=fun l z n=>by rw [flipL,cD rfl]
    rw [e0,zCe (s:=rsign (f x)) oM,zFC,hz,zCe oM,zCe oM,zFC];rcases hs with ⟨h1,A⟩ | ⟨h1,A⟩<;>rw [h1,A]
    . have:flip2 1 (-1)=1:=by decide
      rw [this];omega
    . have:flip2 (-1) 1=1:=by decide
      rw [this];omega
  . exact zSi C.1 hfx e
theorem zKU:∀ (l:List Int) (z n:Int),flipL (l.map fun s => -s) (-z) n=flipL l z n
 | [],_,_=>rfl
 | s :: l,z,n=>by
  rw [fi,flipL,flipL];by_cases e:s=0
  . rw [cD e,cD oM];exact zKU l z n
  . rw [ct e,ct oM,zKU l s];congr 1;by_cases h:(z=1/\s = -1)\/(z = -1/\s=1)
    . rw [cD h,cD oM]
    . rw [ct h,ct oM]
theorem chain_cnt {d:Poly} (hs:Trimd s) (h0:s≠[]) (hd:zCN s=some d) (h:chain s d=some L) {lo hi:Rat} (J:lo<=hi) (M:ev s lo≠0) (Z:ev s hi≠0) :
 flipL (L.map fun p=>rsign (ev p hi)) 0 0<=flipL (L.map fun p=>rsign (ev p lo)) 0 0:=by
 obtain ⟨P,hP,h⟩:=cbind h;obtain ⟨Q,hQ,h⟩:=cbind h;obtain ⟨P1,P2,u,hu,P3⟩:=zAj hP;obtain ⟨Q1,Q2,v,hv,Q3⟩:=zAj hQ;rw [zo hs] at P2;have hP0:P≠[]:=fun e=>h0 (zAd (by rw [<- P2,e];rfl));have h:zBe (Q.length+2) P Q=some L:=h;obtain ⟨g,aa,C,z,ab,ad,an⟩:=zQX h P1 Q1 hP0;have eP:∀ x,ev P x=ev s x*u:=zEN P3;have eQ:∀ x,ev Q x=derv s x*v:=fun x=>by rw [zEN Q3,zHs (zBC hd).2]
 by_cases H:Q=[]
 . rw [ab H];show flipL [rsign (ev P hi)] 0 0<=flipL [rsign (ev P lo)] 0 0;have n1:=zIJ (x:=ev P hi) (by rw [eP];grind);have n2:=zIJ (x:=ev P lo) (by rw [eP];grind);rw [zCe oM,zCe oM,zFC,zFC];exact ia _
 obtain ⟨l,hl⟩:=ad H;rw [hl] at z
 match aa,C,z with
 | [],C,z=>exact absurd (cW List.length z) sM
 | [_],C,z=>exact absurd (cW List.length z) sM
 | h1 :: h2 :: F,C,z =>
  have I:=iJ z;have hP':∀ x,ev P x=h1 x*ev g x:=congrFun I.1;have hval:∀ x,ev s x≠0->ev P x≠0/\flipL (L.map fun p=>rsign (ev p x)) 0 0=flipL (sgs (h1 :: h2 :: F) x) 0 0/\Wd (sgs (h1 :: h2 :: F) x)=2*flipL (sgs (h1 :: h2 :: F) x) 0 0:=fun x hx=>by
   have A:ev P x≠0:=by rw [eP];grind
   have hg:ev g x≠0:=fun e=>A (by rw [hP',e,ed]);have hh:h1 x≠0:=fun e=>A (by rw [hP',e,dO]);refine ⟨A,?_,(hc_fp C).1 x fun _ _ e=>by cases e;exact hh⟩;have e2:(h1 :: h2 :: F).map (fun f=>rsign (f x*ev g x))=L.map fun p=>rsign (ev p x):=by
    have:=cW (List.map fun f:Rat->Rat=>rsign (f x)) z;rw [iF,iF] at this;rw [hl];exact this.symm
   rw [<- e2];by_cases e:0<ev g x
   . rw [show (fun f:Rat->Rat=>rsign (f x*ev g x))=fun f=>rsign (f x) from funext fun f=>zII e];rfl
   . have e:0 < -ev g x:=by grind
     rw [show (fun f:Rat->Rat=>rsign (f x*ev g x))=fun f => -rsign (f x) from funext fun f=>by
      rw [<- rsign_neg',<- zII (a := -f x) e];congr 1;grind]
     have:=zKU ((h1 :: h2 :: F).map fun f=>rsign (f x)) 0 0;rw [iF] at this;exact this
  have hc:0<u/v:=div_pos hu hv
  -- a bound of both numbers
  have b1:=zNS lo;have b2:=zNS hi;have n1:=zIq lo;have n2:=zIq hi;have hR:0<rabs lo+rabs hi+1:=gR
  have bl:Bd (rabs lo+rabs hi+1) lo:=b1.le gR;have bh:Bd (rabs lo+rabs hi+1) hi:=b2.le gR;have hDv:Dv (rabs lo+rabs hi+1) (ev P) (fun x=>u/v*ev Q x):=by
   obtain ⟨E,hE,k⟩:=zSL hR s;refine ⟨u*E,fh hu hE,fun x y hx hy => ?_⟩;obtain ⟨e,e1,e2⟩:=k x y hx hy;refine ⟨u*e,?_,?_⟩
   . have h1:=dX (gR:0<=u) (show 0<=E-e by have:=e1.2;grind);have h2:=dX (gR:0<=u) (show 0<=E+e by have:=e1.1;grind);constructor<;>grind
   . show ev P y-ev P x=(y-x)*(u/v*ev Q x+(y-x)*(u*e));rw [eP,eP,eQ];have:u/v*(derv s x*v)=u*derv s x:=by grind
     rw [this];grind
  obtain ⟨r0,r1,r2⟩:=hval hi Z;obtain ⟨l0,l1,l2⟩:=hval lo M;have:=hc_all2 hR P1 hP0 C hc (sm_ev g) hP' (f1:=ev Q) (fun x=>congrFun (iJ I.2).1 x) hDv (b:=hi) bh r0 (a:=lo) bl J l0;rw [r1,l1];omega
theorem zRP {m:Rat} (A:0<=m) {x:Rat} (C:m+1 <= -x):∀ (n:Nat) (p:Poly),p.length=n+1->co p n=1->(∀ k,k<n->Bd m (co p k))->Far 1 (ev p x)
 | 0,p,l,h1,_=>by
  obtain ⟨a,rfl⟩:=gk.1 l;have h1:a=1:=h1;left;rw [ev_c,h1];exact Rat.le_refl
 | n+1,[],l,_,_=>by simp at l
 | n+1,a :: p,l,h1,h=>by
  have z:=zRP A C n p (by simpa using l) h1 fun k hk=>h (k+1) oM;have h3:Bd m a:=h 0 oM;obtain ⟨a1,a2⟩:=h3;rw [ev];rcases z with z | z
  . right;have:=dX (gR:0 <= -x) (gR:0<=ev p x-1);grind
  . left;have:=dX (gR:0 <= -x) (gR:0 <= -1-ev p x);grind
end Go.Proofs.YtjiendlfobjanaaGreatDoor
namespace Go.Proofs.YtjiendlfobjanaaGreatDoor
open Go Go.Proofs Tryz
abbrev YB:=zBA prog
end Go.Proofs.YtjiendlfobjanaaGreatDoor
namespace Go.Proofs.YtjiendlfobjanaaGreatDoor
open Go Go.RowKit Go.Proofs Tryz
set_option maxRecDepth 10000
set_option maxHeartbeats 2000000
attribute [local irreducible] Runs WPE CallK Ret
variable {cap k n:Nat} {ds:List Nat} {w:World}
theorem zHG (w:World):Ret prog 106 #[] w (fun v w'=>IsW w' v 1):=by
 refine J0 2 func106 rfl (rj (ag (ru (rj ?_))));refine K1 (zi (cs:=[.int .u64 1]) zEn info164' dE dE kR fun b w1 A h l C => ?_);replace E0:=E0.trans h;refine ag (ru (zE (en rfl E0 ?_)));refine ⟨some ⟨b,0,none⟩,[1],1,rfl,dE,fun i hi => ?_,⟨by intro d z;simp at z;omega,sM⟩,rfl⟩;have:i=0:=by simpa using hi
 subst this;exact ⟨b,0,_,rfl,l,rfl⟩
theorem zPk (h:Norm ds):nat64 ds=1↔ds.length=1/\ds.getD 0 0=1:=by
 constructor
 . intro e;have h1:Norm [1]:=⟨by intro d z;simp at z;omega,sM⟩;have:=h.inj h1 (by rw [e];rfl);subst this;exact ⟨rfl,rfl⟩
 . rintro ⟨h1,l⟩
   match ds,h1 with
   | [d],_=>simp at l;subst l;rfl
theorem zCZ {x:Value} (C:IsW w x n):Ret prog 156 #[x] w (fun v _=>v = .bool (decide (n=1))):=by
 obtain ⟨p,ds,cap,rfl,A,l,z,E⟩:=C;have hi:=zPk z;rw [E] at hi;by_cases hl:ds.length=1
 . obtain ⟨d,rfl⟩:∃ d,ds=[d]:=by match ds,hl with | [d],_=>exact ⟨d,rfl⟩
   obtain ⟨b,o,cs,rfl,F,H⟩:=l 0 sM;have E0:Ext w w:=Ext.refl w;refine J0 12 func156 rfl (rj (ag (ru (rJ (K1 (zG zj rfl (K8 rfl (mv (K7 (K2 (zH zj rfl rfl dE sM (K2 (zD zAg rfl F H (K2 (zC rfl rfl rfl (pc0 rfl (ag ?_)))))))))))))))));refine ru (zE (en rfl E0 ?_));show Value.bool ((d:Int)==1)=_;congr 1;rw [Bool.eq_iff_iff];simp at hi ⊢;omega
 . have h:((((ds.length:Nat):Int)==1)==true)=false:=by simp;omega
   have E0:Ext w w:=Ext.refl w;refine J0 12 func156 rfl (rj (ag (ru (rJ (K1 (zG zj rfl (K8 rfl (mv (zCq h (zCq h (zCq h (zCq h (pc0 rfl (ag ?_))))))))))))));refine ru (zE (en rfl E0 ?_));show (if (((ds.length:Nat):Int)==1)=true then _ else Value.bool false)=_;rw [ct (by simp;omega)];congr 1;have:¬ n=1:=fun e=>hl (hi.1 e).1;simp [this]
theorem zDv (h:k<ds.length) (h0:ds.getD k 0=0):nat64 (ds.take (k+1))=nat64 (ds.take k):=by
 rw [zEi h,h0];simp
theorem zKr (l:Dig ds) (h:k<ds.length) (h0:ds.getD k 0≠0):Norm (ds.take (k+1)):=by
 refine ⟨l.take _,?_⟩;rw [zCv h,List.getLast?_append];simpa using h0
theorem zOB {p:Option Addr} (J:ds.length<=cap) (l:Rd w p ds) (C:Dig ds) (M:ds.length<4611686018427387904):Ret prog 194 #[.slice p ds.length cap] w (fun v _=>∃ k,k<=ds.length/\v = .slice p k cap/\Norm (ds.take k)/\nat64 (ds.take k)=nat64 ds):=by
 refine J0 21 func194 rfl (rj (ag (ru (zA (zF (zX (X:=Nat) (fun k Z w'=>Keep Z [(0,.slice p k cap)]/\k<=ds.length/\nat64 (ds.take k)=nat64 ds/\Ext w w'/\Rd w' p ds) (fun k=>k) ds.length ⟨(kp rfl),cX _,sM,E0,l⟩ ?_))))));rintro k ρ1 w1 ⟨hk,F,A,E0,l⟩;refine wpe_k _ hk ?_;refine zA (zA ?_);rcases k with _ | k
 . skip
   refine rI (K1 (zG zj rfl (K8 rfl (mv (K3 (K3 (K3 (K3 (K3 (K3 (K3 (pc0 rfl (rl (zK ?_))))))))))))));refine wcf rfl (zT (zt (zf (zI (zK (rJ (ag (ru (zE (zM ?_))))))))));exact ⟨rfl,_,zZ rfl rfl,E0,0,di _,rfl,⟨by intro d hd;simp at hd,sM⟩,A⟩
 . obtain ⟨b,o,cs,rfl,hB,hv⟩:=l k oM;have hg0:decide (((k+1:Nat):Int)>0)=true:=by simp only [eA];omega
   have z:(decide (((k+1:Nat):Int)>0)==true)=true:=by rw [hg0];rfl
   have H:IntKind.i64.wrap (((k+1:Nat):Int)-1)=(k:Int):=by rw [zm oM oM];omega
   refine rI (K1 (zG zj rfl (K8 rfl (mv (sr_g z (zAH (sr_g z (zAH (sr_g z (zG zj rfl (sr_g z (zC rfl rfl rfl (sr_g z (zH (ix:=k) zj rfl (cW (Value.int .i64) H) oM oM (sr_g z (zD zAg rfl hB (by simpa using hv) (sr_g z (zC rfl rfl rfl (pc0 (b:=true) (cW Value.bool hg0) (rl (zK ?_)))))))))))))))))))));refine K0 rfl ?_ ?_<;>intro I
   . have E:ds.getD k 0=0:=by simpa [look,look1,ext] using I
     refine sk (zF (rI (mv (K1 (zG zj rfl (K8 rfl (K1 (zBa (h:=k) zj rfl (cW (Value.int .i64) H) oM oM (ag (rl (zN (zL (⟨rfl,k,⟨(kp rfl),oM,?_,E0,l⟩,oM⟩)))))))))))));rw [<- A,zDv oM E]
   . have E:ds.getD k 0≠0:=by simpa [look,look1,ext] using I
     refine zT (zt (zf (zI (zK (rJ (ag (ru (zE (en rfl E0 ⟨k+1,F,rfl,zKr C oM E,A⟩)))))))))
variable {ca cb:Nat} {fd:Nat->Nat->Nat->Nat×Nat} {pa:Option Addr} {xs ys:List Nat}
theorem zLE (x y c:Nat) (h:c<=1) (w:World):(callFunc 193 #[.int .u64 (x:Int),.int .u64 (y:Int),.int .u64 (c:Int)]).run prog w =
 .ok (.value (.tuple #[.int .u64 (((x+y+c)%18446744073709551616:Nat):Int),.int .u64 (((x+y+c)/18446744073709551616:Nat):Int)])) w:=by
 rw [run_callFunc_extern func193 kR kR kR (e:=add64Entry) kR,run_add64 x y c oM oM oM oM];simp only [Result.andThen];congr 5<;>omega
theorem zOw (x y b:Nat) (h:b<=1) (w:World):(callFunc 294 #[.int .u64 (x:Int),.int .u64 (y:Int),.int .u64 (b:Int)]).run prog w =
 .ok (.value (.tuple #[.int .u64 (((x+18446744073709551616-y-b)%18446744073709551616:Nat):Int),.int .u64 ((if x<y+b then 1 else 0:Nat):Int)])) w:=by
 rw [run_callFunc_extern func294 kR kR kR (e:=sub64Entry) kR,run_sub64 x y b h];rfl
def zl (fd:Nat->Nat->Nat->Nat×Nat) (xs ys:List Nat):Nat->List Nat×Nat
 | 0=>([],0)
 | i+1=>((zl fd xs ys i).1++[(fd (xs.getD i 0) (ys.getD i 0) (zl fd xs ys i).2).1],(fd (xs.getD i 0) (ys.getD i 0) (zl fd xs ys i).2).2)
theorem zAN (fd:Nat->Nat->Nat->Nat×Nat) (xs ys:List Nat):∀ i,(zl fd xs ys i).1.length=i
 | 0=>rfl
 | i+1=>by simp [zl,zAN fd xs ys i]
theorem zDs (l:Dig xs) (z:Dig ys) (h:∀ x y c,x<18446744073709551616->y<18446744073709551616->c<=1->(fd x y c).2<=1) (i:Nat):(zl fd xs ys i).2<=1:=by
 induction i with
 | zero=>exact di _
 | succ i A=>exact h _ _ _ (l.getD i) (z.getD i) A
theorem zER (l:List Nat) (n d:Nat):(l++List.replicate (n+1) 0).set l.length d=(l++[d])++List.replicate n 0:=by
 rw [List.set_append_right _ _ (cX _)];simp [gz]
theorem zIY {E:Option Addr} {g:Nat} (l:Rd w pa xs) (z:Rd w E ys) (ay:xs.length<17592186044416) 
 (J:Dig xs) (M:Dig ys)
 (ah:∀ (x y c:Nat),x<18446744073709551616->y<18446744073709551616->c<=1->∀ w,(callFunc g #[.int .u64 (x:Int),.int .u64 (y:Int),.int .u64 (c:Int)]).run prog w = .ok (.value (.tuple #[.int .u64 ((fd x y c).1:Nat),.int .u64 ((fd x y c).2:Nat)])) w)
 (ai:∀ x y c,x<18446744073709551616->y<18446744073709551616->c<=1->(fd x y c).2<=1) :
 Ret prog 293 #[.slice pa xs.length ca,.slice E ys.length cb,.func (.func g) #[] #[]] w (fun v w'=>∃ b,w.heap.size<=b/\v = .slice (some ⟨b,0,none⟩) (xs.length+1) (xs.length+1)/\Blk w' b 164 (dv ((zl fd xs ys xs.length).1++[(zl fd xs ys xs.length).2]))):=by
 have aj:∀ i,(zl fd xs ys i).2<=1:=zDs J M ai;refine J0 49 func293 rfl (rj (ag (ru (rJ (K1 (zG zj rfl (K8 rfl ?_)))))));have hw1:IntKind.i64.wrap (((xs.length:Nat):Int)+1)=((xs.length+1:Nat):Int):=by rw [zm oM oM];omega
 refine K1 (zAK zEn zHZ rfl (cW (Value.int .i64) hw1) (cW (Value.int .i64) hw1) oM oM oM fun b w1 A hE F hs => ?_);have C:w.heap.size<=b:=by rw [A];exact E0.size
 have ak:=l.ne (dS A.symm);have al:=z.ne (dS A.symm);obtain ⟨E0,l,z⟩:=V2 hE E0 l.ext z.ext;rw [show ((xs.length+1:Nat):Int).toNat=xs.length+1 from by omega,show (Value.int IntKind.u64 0).cells.toList=[Value.int IntKind.u64 0] from rfl,zAp] at F;refine ag (ru (rj (ag (ru (zA (rJ (K1 (zG zj rfl (mv (ru (zF ?_)))))))))));have slot17:((xs.length+1:Nat):Int).toNat=xs.length+1:=oM
 refine zX (X:=Nat) (fun i ρ w'=>Keep ρ [(0,.slice pa xs.length ca),(1,.slice E ys.length cb),(2,.func (.func g) #[] #[]),(7,.slice (some ⟨b,0,none⟩) (xs.length+1) (xs.length+1)),(8,.int .u64 ((zl fd xs ys i).2:Nat)),(16,.slice pa xs.length ca),(17,.int .i64 (xs.length:Nat)),(18,.int .i64 (i:Nat))]/\i<=xs.length/\Ext w w'/\Rd w' pa xs/\Rd w' E ys/\Blk w' b 164 (dv ((zl fd xs ys i).1++List.replicate (xs.length+1-i) 0))) (fun i=>xs.length-i) 0 ⟨(kp rfl),di _,E0,l,z,F⟩ ?_;rintro i ρ1 w1 ⟨hk,az,E0,l,z,F⟩;refine wpe_k _ hk ?_;refine rj (K8 rfl (ru (zA ?_)));refine K0 rfl ?_ ?_<;>intro H
 . have am:i<xs.length:=by simpa [look,look1,ext] using H
   obtain ⟨b2,o2,aA,Z,an,ao⟩:=l i am;refine sk (zA (zF (rJ (K1 (zH (b:=b2) (o:=o2) zj (cW (fun p=>Value.slice p xs.length ca) Z) rfl oM oM (K1 (zD zAg rfl an (by simpa using ao) (ag (ag (ru (rj (ag (ru (zBZ (fun ρ w'=>Keep ρ [(0,.slice pa xs.length ca),(1,.slice E ys.length cb),(2,.func (.func g) #[] #[]),(7,.slice (some ⟨b,0,none⟩) (xs.length+1) (xs.length+1)),(8,.int .u64 ((zl fd xs ys i).2:Nat)),(16,.slice pa xs.length ca),(17,.int .i64 (xs.length:Nat)),(18,.int .i64 (i:Nat)),(9,.int .i64 (i:Nat)),(10,.int .u64 (xs.getD i 0:Nat)),(11,.int .u64 (ys.getD i 0:Nat))]/\w'=w1) ?_ ?_))))))))))))))
   . refine rJ (mv (K1 (zG zj rfl (K8 rfl (ru ?_)))));refine K0 rfl ?_ ?_<;>intro H
     . have h:i<ys.length:=by simpa [look,look1,ext] using H
       obtain ⟨b3,o3,aB,aa,ap,aq⟩:=z i h;exact rI (mv (K1 (zH (b:=b3) (o:=o3) zj (cW (fun p=>Value.slice p ys.length cb) aa) rfl oM oM (K1 (zD zAg rfl ap (by simpa using aq) (ag (rl (zL ⟨rfl,(kp rfl),rfl⟩))))))))
     . have h:¬ i<ys.length:=by simpa [look,look1,ext] using H
       refine zw (zL ?_);exact ⟨rfl,⟨rfl,rfl,rfl,rfl,rfl,rfl,rfl,rfl,rfl,rfl,rfl,rfl,rfl,rfl,rfl,rfl,rfl,rfl,rfl,rfl,rfl,(by simp only [look1,ext,look,cC,ez (ft h)];rfl),trivial⟩,rfl⟩
   . rintro aC w2 ⟨hk,rfl⟩;refine wpe_k _ hk ?_;refine rI (mv (mv (mv (mv (mv (K1 (runs_callEV rfl (ah (xs.getD i 0) (ys.getD i 0) _ (J.getD i) (M.getD i) (aj i) _) (mv (xt rfl (xt rfl (K1 (zH (b:=b) (o:=0) zj rfl rfl oM oM ?_))))))))))));refine K1 (zc zDZ rfl F rfl (by simp [zAO,zAN]<;>omega) dE rfl fun w2 I hN => ?_);refine ag (rl (zN (zK (K6 (K8 rfl (mv (rl (zL ?_))))))));have h2:=zAq (i:=i) (d:=(fd (xs.getD i 0) (ys.getD i 0) (zl fd xs ys i).2).1) hN sM;have h3:=zER (zl fd xs ys i).1 (xs.length-i) (fd (xs.getD i 0) (ys.getD i 0) (zl fd xs ys i).2).1;rw [zAN] at h3;rw [show xs.length+1-i=xs.length-i+1 from by omega,h3] at h2;refine ⟨rfl,i+1,⟨kw,oM,E0.upd I C,l.upd' I ak,z.upd' I al,?_⟩,oM⟩;rw [show xs.length+1-(i+1)=xs.length-i from by omega];exact h2
 . have aD:¬ i<xs.length:=by simpa [look,look1,ext] using H
   obtain rfl:i=xs.length:=oM
   refine zT (zt (zf (zI (zK (rJ (mv (K1 (zG zj rfl (mv (K1 (zH (b:=b) (o:=0) zj rfl rfl oM oM ?_)))))))))));refine K1 (zc zDZ rfl F rfl (by simp [zAO,zAN]<;>omega) dE rfl fun w2 I hN => ?_);refine ru (rJ (ag (ru (zE (en rfl (E0.upd I C) ⟨b,C,rfl,?_⟩)))));have h2:=zAq (i:=xs.length) (d:=(zl fd xs ys xs.length).2) hN sM;have h3:=zER (zl fd xs ys xs.length).1 0 (zl fd xs ys xs.length).2;rw [zAN] at h3;rw [show xs.length+1-xs.length=0+1 from by omega,h3] at h2;simpa using h2
variable {B X Y b c:Nat}
def Fit (n:Nat):Prop:=n.log2<8796093022208
theorem Norm.fit (h:Norm ds) (l:Fit (nat64 ds)):ds.length<=137438953473:=h.len_le l
theorem Rd.of_blk (h:Blk w b 164 (dv ds)):Rd w (some ⟨b,0,none⟩) ds:=fun i hi=>⟨b,0,_,rfl,h,by rw [dW];exact zDP ds i hi⟩
theorem Rd.take {p:Option Addr} (h:Rd w p ds) (k:Nat):Rd w p (ds.take k):=fun i hi=>by
 have l:i<k/\i<ds.length:=by simp at hi;omega
 obtain ⟨b,o,cs,h1,z,A⟩:=h i l.2;refine ⟨b,o,cs,h1,z,?_⟩;rw [A];simp [l.1]
theorem zFl {p:Option Addr} (C:ds.length=n) (l:n<=cap) (h:Rd w p ds) (z:Dig ds) (A:n<4611686018427387904):Ret prog 194 #[.slice p n cap] w (fun v w'=>IsW w' v (nat64 ds)):=by
 subst C;exact (zOB l h z A).mono fun v w' E ⟨k,F,H,C,he⟩=>⟨p,ds.take k,cap,by rw [H];simp [dT F],by simp;omega,(h.ext E).take k,C,he⟩
def fAdd (x y c:Nat):Nat×Nat:=((x+y+c)%18446744073709551616,(x+y+c)/18446744073709551616)
def fSub (x y b:Nat):Nat×Nat:=((x+18446744073709551616-y-b)%18446744073709551616,if x<y+b then 1 else 0)
theorem zCB {fd:Nat->Nat->Nat->Nat×Nat} (h:∀ x y c,(fd x y c).1<18446744073709551616) (xs ys:List Nat):∀ i,Dig (zl fd xs ys i).1
 | 0=>by intro d l;simp [zl] at l
 | i+1=>by
  intro d l;simp only [zl,gD,dI] at l;rcases l with l | rfl
  . exact zCB h xs ys i d l
  . exact h _ _ _
theorem nat64_take_succ' (ds:List Nat) (k:Nat):nat64 (ds.take (k+1))=nat64 (ds.take k)+18446744073709551616^k*ds.getD k 0:=by
 by_cases h:k<ds.length
 . exact zEi h
 . rw [dF oM,dF oM];simp [ez (ft h)]
theorem zEa (xs ys:List Nat):∀ i,nat64 (zl fAdd xs ys i).1+18446744073709551616^i*(zl fAdd xs ys i).2=nat64 (xs.take i)+nat64 (ys.take i)
 | 0=>by simp [zl,nat64]
 | i+1=>by
  have h:=zEa xs ys i;rw [nat64_take_succ' xs,nat64_take_succ' ys];simp only [zl];rw [zBi,zAN];generalize (zl fAdd xs ys i).2=c at *;generalize xs.getD i 0=x;generalize ys.getD i 0=y;simp only [fAdd,nat64,fW,fw,dB];have hdm:(x+y+c)=(x+y+c)%18446744073709551616+18446744073709551616*((x+y+c)/18446744073709551616):=(Nat.mod_add_div _ _).symm;generalize (x+y+c)%18446744073709551616=r at *;generalize (x+y+c)/18446744073709551616=q at *;generalize 18446744073709551616^i=B at *;grind
theorem zJi {x y:Nat} (l:x<18446744073709551616) (z:y<18446744073709551616) (A:c<=1):(fSub x y c).1+(y+c)=x+18446744073709551616*(fSub x y c).2:=by
 simp only [fSub];by_cases h:x<y+c
 . rw [cD h];omega
 . rw [ct h];omega
theorem zFB (x y c:Nat):(fSub x y c).2<=1:=by
 simp only [fSub];by_cases h:x<y+c
 . rw [cD h];omega
 . rw [ct h];omega
theorem zNd {R x y r q:Nat} (z:R+Y=X+B*c) (h:r+(y+c)=x+18446744073709551616*q):R+B*r+(Y+B*y)=X+B*x+B*(18446744073709551616*q):=by
 have l:B*(r+(y+c))=B*(x+18446744073709551616*q):=by rw [h]
 simp only [dV] at l;omega
theorem zHS (xs ys:List Nat) (z:Dig xs) (A:Dig ys) (i:Nat):nat64 (zl fSub xs ys i).1+nat64 (ys.take i)=nat64 (xs.take i)+18446744073709551616^i*(zl fSub xs ys i).2:=by
 induction i with
 | zero=>simp [zl,nat64]
 | succ i C =>
  have l:=zJi (z.getD i) (A.getD i) (zDs z A (fun x y c _ _ _=>zFB x y c) i);rw [nat64_take_succ' xs,nat64_take_succ' ys];simp only [zl];rw [zBi,zAN,dB,dt];generalize fSub (xs.getD i 0) (ys.getD i 0) (zl fSub xs ys i).2=r at *;generalize (zl fSub xs ys i).2=c at *;have h:=zNd C l;rw [zFW];exact h
theorem zGe (l:ys.length<=xs.length):nat64 ((zl fAdd xs ys xs.length).1++[(zl fAdd xs ys xs.length).2])=nat64 xs+nat64 ys:=by
 have h:=zEa xs ys xs.length;rw [ej,dF l] at h;rw [zBi,zAN];simpa [nat64] using h
theorem zIh {x y:Nat} (h:x<18446744073709551616) (l:y<18446744073709551616) (z:c<=1):(fAdd x y c).2<=1:=by
 simp only [fAdd];omega
theorem zJA (z:Dig xs) (l:Dig ys) (A:ys.length<=xs.length) (C:nat64 ys<=nat64 xs):nat64 (zl fSub xs ys xs.length).1=nat64 xs-nat64 ys:=by
 have h:=zHS xs ys z l xs.length;rw [ej,dF A] at h;have h1:=zCw _ (zCB (fd:=fSub) (fun x y c=>eE _ dE) xs ys xs.length);rw [zAN] at h1;have hc:=zDs z l (fun x y c _ _ _=>zFB x y c) xs.length;have h2:=zCw ys l;have h3:18446744073709551616^ys.length<=18446744073709551616^xs.length:=dw dE A;rcases (oM:(zl fSub xs ys xs.length).2=0\/(zl fSub xs ys xs.length).2=1) with h4 | h4
 . rw [h4] at h;omega
 . rw [h4] at h;omega
variable {d m:Nat}
theorem zGb (z:d<18446744073709551616):Ret prog 105 #[.int .u64 (d:Int)] w (fun v w'=>IsW w' v d):=by
 refine J0 6 func105 rfl (rj (ag (ru (rj (mv ?_)))));refine K1 (zi (cs:=dv [d]) zEn info164' dE dE kR fun b w1 A h l C => ?_);replace E0:=E0.trans h;refine K1 (j0 E0 yB (zFl (ds:=[d]) rfl (cX _) (Rd.of_blk l) (by intro x hx;simp at hx;omega) dE) fun v1_2 w1 E0 hr => ?_);rw [zFW] at hr;exact ag (ru (zE (en rfl E0 hr)))
theorem zDc {x:Value} {q:Rat} (I:IsNum w x q):Ret prog 104 #[x] w (fun v w'=>IsW w' v q.den):=by
 obtain ⟨n,d,rfl,E,J⟩:=I;obtain ⟨p,ds,cap,rfl,C,l,A,F⟩:=J;refine J0 10 func104 rfl (rj ?_);refine K1 (zn (Z2 E0 E.ext l.ext fun b1 w1 E0 E l hgb1 z=>ag (ru (zA (rj (K1 (zB zGN rfl (K1 (zD zAw rfl z rfl (K1 (zG zj rfl (K8 rfl (ru ?_)))))))))))));refine K0 rfl ?_ ?_<;>intro hc
 . have h0:ds=[]:=by have:=hc;simpa using this
   have h1:q.den=1:=by
    have M:(if q.den=1 then 0 else q.den)=0:=by rw [<- F,h0];rfl
    have:=q.den_pos;by_cases h:q.den=1
    . exact h
    . rw [ct h] at M;omega
   refine rj (K1 (j3 E0 E.ext l.ext z.ext yB (zHG _) fun H w2 E0 E l z Z=>ag (ru (zE (zU (zM ?_))))));exact ⟨rfl,_,zZ rfl rfl,E0,by rw [h1];exact Z⟩
 . have h0:ds≠[]:=by intro e;subst e;have:=hc;simp at this
   have h1:q.den≠1:=by
    intro e;rw [cD e] at F;exact h0 (A.zero.1 F)
   refine sk (rj (K1 (zB zGN rfl (K1 (zD zAw rfl z rfl (ag (ru (zE (en rfl E0 ⟨p,ds,cap,rfl,C,l,A,?_⟩)))))))));rw [F,ct h1]
theorem zMf (l:Dig xs) (z:Dig ys):Dig ((zl fAdd xs ys xs.length).1++[(zl fAdd xs ys xs.length).2]):=by
 intro d h;rw [gD,dI] at h;rcases h with h | rfl
 . exact zCB (fun x y c=>eE _ dE) xs ys _ d h
 . have:=zDs (fd:=fAdd) l z (fun x y c h1 h2 h3=>zIh h1 h2 h3) xs.length;omega
theorem zRw {x y:Value} (M:IsW w x m) (Z:IsW w y n) (hm:Fit m) (hn:Fit n):Ret prog 234 #[x,y] w (fun v w'=>IsW w' v (m+n)):=by
 obtain ⟨pa,xs,ca,rfl,ad,I,h,E⟩:=M;obtain ⟨pb,ys,cb,rfl,ae,J,l,F⟩:=Z;subst E;subst F;have hlx:=h.fit hm;have hly:=l.fit hn;by_cases hl:xs.length<ys.length
 . skip
   have E0:Ext w w:=Ext.refl w;refine J0 16 func234 rfl (rj (ag (ru (zA (rJ (K1 (zG zj rfl (mv (K1 (zG zj rfl (K8 rfl (ru ?_))))))))))));have hcl:decide (((xs.length:Nat):Int)<(ys.length:Nat))=true:=by simp only [eA];omega
   refine wct (cW Value.bool hcl) (rI (mv (ag (ag (rl (zK (rJ (mv (K1 (zJ yB (CallK.of_ret (zIY (fd:=fAdd) J I oM l.1 h.1 (fun x y c _ _ A w=>zLE x y c A w) (fun _ _ _ h1 h2 h3=>zIh h1 h2 h3)) fun v1 w1 hE z => ?_) rfl))))))))));obtain ⟨b,H,rfl,C⟩:=z;replace E0:=E0.trans hE;refine K1 (j0 E0 yB (zFl (by simp [zAN]) (cX _) (Rd.of_blk C) (zMf l.1 h.1) oM) fun v3_3 w1 E0 z => ?_);rw [zGe oM] at z;refine ag (ru (zE (zM ?_)));rw [iH] at z;exact ⟨rfl,_,zZ rfl rfl,E0,z⟩
 . skip
   have E0:Ext w w:=Ext.refl w;refine J0 16 func234 rfl (rj (ag (ru (zA (rJ (K1 (zG zj rfl (mv (K1 (zG zj rfl (K8 rfl (ru ?_))))))))))));have hcl:decide (((xs.length:Nat):Int)<(ys.length:Nat))=false:=by simp only [ii];omega
   refine wcf (cW Value.bool hcl) (sk (rJ (mv (K1 (zJ yB (CallK.of_ret (zIY (fd:=fAdd) I J oM h.1 l.1 (fun x y c _ _ A w=>zLE x y c A w) (fun _ _ _ h1 h2 h3=>zIh h1 h2 h3)) fun v1 w1 hE z => ?_) rfl)))));obtain ⟨b,H,rfl,C⟩:=z;replace E0:=E0.trans hE;refine K1 (j0 E0 yB (zFl (by simp [zAN]) (cX _) (Rd.of_blk C) (zMf h.1 l.1) oM) fun v3_3 w1 E0 z => ?_);rw [zGe oM] at z;exact ag (ru (zE (en rfl E0 z)))
theorem zQD (xs ys:List Nat):Dig ((zl fSub xs ys xs.length).1++[(zl fSub xs ys xs.length).2]):=by
 intro d h;rw [gD,dI] at h;rcases h with h | rfl
 . exact zCB (fun x y c=>eE _ dE) xs ys _ d h
 . have:(zl fSub xs ys xs.length).2<=1:=by
    cases xs.length with
    | zero=>exact di _
    | succ i=>exact zFB _ _ _
   omega
theorem sub_take:((zl fSub xs ys xs.length).1++[(zl fSub xs ys xs.length).2]).take xs.length=(zl fSub xs ys xs.length).1:=by
 have h:=zAN fSub xs ys xs.length;rw [eV oM,dF oM]
theorem Dig.of_append {a b:List Nat} (h:Dig (a++b)):Dig a:=fun d l=>h d (gK _ l)
theorem zUG {x y:Value} (F:IsW w x m) (H:IsW w y n) (I:Fit m) (A:n<=m):Ret prog 235 #[x,y] w (fun v w'=>IsW w' v (m-n)):=by
 obtain ⟨pa,xs,ca,rfl,ab,J,l,C⟩:=F;obtain ⟨pb,ys,cb,rfl,ad,M,z,E⟩:=H;subst C;subst E;have hlx:=l.fit I;have hll:ys.length<=xs.length:=by
  rcases dR xs.length ys.length with h | h
  . have:=Norm.len_lt l.1 z h;omega
  . exact h
 refine J0 12 func235 rfl (rj (ag (ru (rJ (mv (K1 (zJ yB (CallK.of_ret (zIY (fd:=fSub) J M oM l.1 z.1 (fun x y c _ _ Z w=>zOw x y c Z w) (fun x y c _ _ _=>zFB x y c)) fun v1 w1 hE hr => ?_) rfl)))))));obtain ⟨b,ae,rfl,hB⟩:=hr;replace E0:=E0.trans hE;refine mv (K1 (zG zj rfl (K1 (zBa zj rfl rfl oM oM (K1 (j0 E0 yB (zFl (ds:=(zl fSub xs ys xs.length).1) (by simp [zAN]) oM (sub_take (xs:=xs) (ys:=ys) ▸ (Rd.of_blk hB).take xs.length) (Dig.of_append (zQD xs ys)) oM) fun v1_6 w1 E0 hr => ?_))))));rw [zJA l.1 z.1 hll A] at hr;exact ag (ru (zE (en rfl E0 hr)))
def CmpIs (c:Int) (m n:Nat):Prop:=(c<0↔m<n)/\(c=0↔m=n)
theorem zGr (h:k<ds.length):nat64 (ds.drop k)=ds.getD k 0+18446744073709551616*nat64 (ds.drop (k+1)):=by
 rw [dZ h];simp [nat64,h]
theorem nat64_eq_of (H:Dig xs) (I:Dig ys) (z:xs.length=ys.length) (l:k<xs.length) (C:nat64 (xs.drop (k+1))=nat64 (ys.drop (k+1))) :
 (xs.getD k 0=ys.getD k 0->nat64 (xs.drop k)=nat64 (ys.drop k))/\(xs.getD k 0<ys.getD k 0->nat64 xs<nat64 ys)/\(ys.getD k 0<xs.getD k 0->nat64 ys<nat64 xs):=by
 have E:=zGr l;have F:=zGr (ds:=ys) (z ▸ l);have A:∀ (a b:List Nat),Dig a->Dig b->a.length=b.length->k<a.length->nat64 (a.drop k)<nat64 (b.drop k)->nat64 a<nat64 b:=by
  intro a b J M z l h;rw [zFt a k,zFt b k];have h1:=zCw _ (J.take k);simp only [eW,dT (eU l)] at h1;rw [<- z,dT (eU l)];generalize 18446744073709551616^k=B at *;generalize nat64 (a.drop k)=u at *;generalize nat64 (b.drop k)=v at *;have:B*(u+1)<=B*v:=dy _ h;rw [dV,fT] at this;omega
 refine ⟨fun h=>by rw [E,F,h,C],fun h=>A xs ys H I z l ?_,fun h=>A ys xs I H z.symm (z ▸ l) ?_⟩
 . rw [E,F,C];omega
 . rw [E,F,C];omega
theorem zSE {x y:Value} (hx:IsW w x m) (hy:IsW w y n) (hm:Fit m) (hn:Fit n):Ret prog 174 #[x,y] w (fun v _=>∃ c,v = .int .i64 c/\CmpIs c m n):=by
 obtain ⟨pa,xs,ca,rfl,ay,F,A,ah⟩:=hx;obtain ⟨pb,ys,cb,rfl,az,H,C,ai⟩:=hy;subst ah;subst ai;have hlx:=A.fit hm;have hly:=C.fit hn;by_cases hl:xs.length=ys.length
 . skip
   have E0:Ext w w:=Ext.refl w;refine J0 41 func174 rfl (rj (ag (ru (zA (rJ (K1 (zG zj rfl (mv (K1 (zG zj rfl (K8 rfl (ru ?_))))))))))));have hcl:(((xs.length:Nat):Int) != (ys.length:Nat))=false:=by simp;omega
   refine wcf (cW Value.bool hcl) (sk (zA (rJ (K1 (zG zj rfl (K8 rfl (ag (ru (zF (zX (X:=Nat) (fun k ρ w'=>Keep ρ [(0,.slice pa xs.length ca),(1,.slice pb ys.length cb),(5,.int .i64 (((k:Nat):Int)-1))]/\k<=xs.length/\nat64 (xs.drop k)=nat64 (ys.drop k)/\Ext w w'/\Rd w' pa xs/\Rd w' pb ys) (fun k=>k) xs.length ⟨⟨rfl,rfl,rfl,rfl,rfl,cW (Value.int .i64) (zm oM oM),trivial⟩,cX _,by rw [hl,eO,<- hl,eO],E0,F,H⟩ ?_))))))))));rintro k ρ1 w1 ⟨hk,aA,M,E0,F,H⟩;refine wpe_k _ hk ?_;refine zA (zA ?_);rcases k with _ | k
   . skip
     refine rI (K8 rfl (rl (zK (wcf rfl (zT (zt (zf (zI (zK (rj (ag (ru (zE ?_)))))))))))));refine en rfl E0 ⟨0,rfl,?_⟩;simp only [eT] at M;rw [M];exact ⟨⟨fun h=>by omega,fun h=>by omega⟩,⟨fun _=>rfl,fun _=>rfl⟩⟩
   . obtain ⟨b1,o1,aB,I,l,Z⟩:=F k oM;obtain ⟨b2,o2,aC,J,z,aa⟩:=H k oM;have hkey:=nat64_eq_of A.1 C.1 hl oM M;have hk0:decide ((((k+1:Nat):Int)-1)≥0)=true:=by simp only [eA];omega
     have aj:IntKind.i64.wrap (((k+1:Nat):Int)-1-1)=((k:Nat):Int)-1:=by rw [zm oM oM];omega
     have E:(((k+1:Nat):Int)-1).toNat=k:=oM
     refine rI (K8 rfl (rl (zK (wct (cW Value.bool hk0) (sk (zA (zF (zA (zBx 9 mixed kR fun K hK=>qM (qM (qS (fun hE=>zH (b:=b1) (o:=o1) zj (cW (fun p=>Value.slice p xs.length ca) I) rfl oM oM eQ) ?_)))))))))));refine qS (fun hE=>zD zAg rfl (l.ext hE) (by rw [E];simpa using Z) eQ) ?_;refine qM (qM (qS (fun hE=>zH (b:=b2) (o:=o2) zj (cW (fun p=>Value.slice p ys.length cb) J) rfl oM oM eQ) ?_));refine qS (fun hE=>zD zAg rfl (z.ext hE) (by rw [E];simpa using aa) eQ) ?_;refine qS (fun hE=>zC rfl rfl rfl eQ) (hK _ fun wq hE=>zAh ?_);obtain ⟨E0,F,H,l,z⟩:=V4 hE E0 F.ext H.ext l.ext z.ext;refine zK ?_;refine K0 rfl ?_ ?_<;>intro hc
     . have ak:=hc;refine zA (zA (zBx 9 mixed kR fun K hK=>qM (qM (qS (fun hE=>zH (b:=b1) (o:=o1) zj (cW (fun p=>Value.slice p xs.length ca) I) rfl oM oM eQ) ?_))));refine qS (fun hE=>zD zAg rfl (l.ext hE) (by rw [E];simpa using Z) eQ) ?_;refine qM (qM (qS (fun hE=>zH (b:=b2) (o:=o2) zj (cW (fun p=>Value.slice p ys.length cb) J) rfl oM oM eQ) ?_));refine qS (fun hE=>zD zAg rfl (z.ext hE) (by rw [E];simpa using aa) eQ) ?_;refine qS (fun hE=>zC rfl rfl rfl eQ) (hK _ fun wq hE=>zAh ?_);obtain ⟨E0,F,H,l,z⟩:=V4 hE E0 F.ext H.ext l.ext z.ext;refine zK ?_;refine K0 rfl ?_ ?_<;>intro hc
       . have ab:xs.getD k 0<ys.getD k 0:=t_lt hc;refine rj (ag (ru (zE (zU (zd (zU (zAP (zd (zU (en rfl E0 ⟨-1,rfl,?_⟩))))))))));have:=hkey.2.1 ab;exact ⟨⟨fun _=>this,fun _=>by omega⟩,⟨fun e=>by omega,fun e=>by omega⟩⟩
       . have ab:ys.getD k 0<=xs.getD k 0:=f_lt hc;have hne:xs.getD k 0≠ys.getD k 0:=t_bne ak;refine sk (rj (ag (ru (zE (zd (zU (zAP (zd (zU (en rfl E0 ⟨1,rfl,?_⟩))))))))));have:=hkey.2.2 oM;exact ⟨⟨fun _=>by omega,fun _=>by omega⟩,⟨fun e=>by omega,fun e=>by omega⟩⟩
     . have al:xs.getD k 0=ys.getD k 0:=f_bne hc;exact zw (zN (zK (rI (K8 rfl (ag (rl (zL (⟨rfl,k,⟨⟨rfl,rfl,rfl,rfl,rfl,cW (Value.int .i64) aj,trivial⟩,oM,hkey.1 al,E0,F,H⟩,oM⟩))))))))
 . skip
   have E0:Ext w w:=Ext.refl w;refine J0 41 func174 rfl (rj (ag (ru (zA (rJ (K1 (zG zj rfl (mv (K1 (zG zj rfl (K8 rfl (ru ?_))))))))))));have hcl:(((xs.length:Nat):Int) != (ys.length:Nat))=true:=by simp;omega
   refine wct (cW Value.bool hcl) (rJ (K1 (zG zj rfl (mv (K1 (zG zj rfl (K8 rfl (ag (ru (zE (zU (en rfl E0 ⟨_,rfl,?_⟩))))))))))));rw [zm oM oM];rcases Nat.lt_or_gt_of_ne hl with h | h
   . have:=Norm.len_lt A.1 C h;exact ⟨⟨fun _=>this,fun _=>by omega⟩,⟨fun e=>by omega,fun e=>by omega⟩⟩
   . have:=Norm.len_lt C.1 A h;exact ⟨⟨fun _=>by omega,fun _=>by omega⟩,⟨fun e=>by omega,fun e=>by omega⟩⟩
end Go.Proofs.YtjiendlfobjanaaGreatDoor
namespace Go.Proofs
open Go.Shelf
def Tryz.lays156_ren:Go.Shelf.Ren:=⟨fun | 156=>243 | 165=>301 | 166=>302 | 169=>304 | 240=>336 | 241=>337 | 276=>360 | 277=>361 | n=>n,fun | 31=>304 | 9=>9 | 3=>3 | 4=>4 | 0=>0 | 20=>20 | 72=>356 | 76=>360 | 70=>354 | 37=>109 | 75=>359 | 127=>387 | 164=>409 | 5=>5 | 80=>221 | n=>n,fun | n=>n⟩
theorem Tryz.lays156:Go.Proofs.Lays.n156 Tryz.prog Tryz.lays156_ren:=by constructor<;>intros<;>kernel_rfl
theorem Tryz.Builder_Extra_156:Builder.Extra Tryz.prog Tryz.lays156_ren:={
 sizeBuilder:=by kernel_rfl
 liesBuilder:=by kernel_rfl
 t5:=Tryz.underlying5
 a5:=Tryz.isAgg5
 z5:=Tryz.sizeOf5
 v5:=Tryz.zeroValue5
 infoByte:=by kernel_rfl
 cellsByte:=by kernel_rfl
 sizeByte:=by kernel_rfl
 neB5:=by decide }
open Go.RowKit in
theorem Tryz.strings_Join (bk o c:Nat) (xs:List ByteArray) (sep:ByteArray) (w:World) (hcells:∀ (j:Nat) x,xs[j]? = some x→w.cell? ⟨bk,o+j,none⟩=some (.string x)) (hbk:bk<w.heap.size) (hN:xs.length≤140737488355328) (hcap:xs.length≤c) (hlen:(Lib.join (xs.map (·.data.toList)) sep.data.toList).length≤140737488355328) :
 Calls Tryz.prog 243 #[.slice (some ⟨bk,o,none⟩) xs.length c,.string sep] w fun e w'=>e = .returned (.string ⟨(Lib.join (xs.map (·.data.toList)) sep.data.toList).toArray⟩)∧Below w.heap.size w w':=Any.strings_Join Tryz.lays156 Tryz.Builder_Extra_156 bk o c xs sep w hcells hbk hN hcap hlen
def Tryz.lays134_ren:Go.Shelf.Ren:=⟨fun | 134=>266 | 129=>321 | n=>n,fun | 53=>164 | 3=>3 | 4=>4 | 46=>110 | 5=>5 | 9=>9 | n=>n,fun | n=>n⟩
theorem Tryz.lays134:Go.Proofs.Lays.n134 Tryz.prog Tryz.lays134_ren:=by constructor<;>intros<;>kernel_rfl
theorem Tryz.bits_LeadingZeros64 (x:Int) (w:World) (h0:0≤x) (h1:x≤18446744073709551615) :
 Calls Tryz.prog 266 #[.int .u64 x] w fun e w'=>e = .returned (.int .i64 (64-(Lib.bitLen x.toNat:Int)))∧w'=w:=Any.bits_LeadingZeros64 Tryz.lays134 x w h0 h1
def Tryz.lays103_ren:Go.Shelf.Ren:=⟨fun | 103=>151 | 210=>244 | 206=>305 | n=>n,fun | 9=>9 | 4=>4 | 24=>222 | 3=>3 | n=>n,fun | n=>n⟩
theorem Tryz.lays103:Go.Proofs.Lays.n103 Tryz.prog Tryz.lays103_ren:=by constructor<;>intros<;>kernel_rfl
open Go.RowKit in
theorem Tryz.strings_CutPrefix (s p:ByteArray) (w:World) :
 Calls Tryz.prog 151 #[.string s,.string p] w fun e w'=>e = .returned (.tuple #[.string ⟨(Lib.trimPrefix s.data.toList p.data.toList).toArray⟩,.bool (Lib.hasPrefix s.data.toList p.data.toList)])∧w'=w:=Any.strings_CutPrefix Tryz.lays103 s p w
def Tryz.lays283_ren:Go.Shelf.Ren:=⟨fun | 283=>331 | n=>n,fun | 3=>3 | 9=>9 | 4=>4 | n=>n,fun | n=>n⟩
theorem Tryz.lays283:Go.Proofs.Lays.n283 Tryz.prog Tryz.lays283_ren:=by constructor<;>intros<;>kernel_rfl
open Go.Lib in
theorem Tryz.internal_strconv_small (i:Nat) (h:i<100) (w:World) :
 Calls Tryz.prog 331 #[.int .i64 i] w fun e w'=>e = .returned (.string ⟨(Lib.decDigits i).toArray⟩)∧w'=w:=Any.internal_strconv_small Tryz.lays283 i h w
def Tryz.laysM284_ren:Go.Shelf.Ren:=⟨fun | 284=>332 | 129=>321 | 317=>356 | 318=>357 | n=>n,fun | 53=>164 | 3=>3 | 212=>406 | 0=>0 | 4=>4 | 46=>110 | 5=>5 | 9=>9 | n=>n,fun | 17=>3 | n=>n⟩
theorem Tryz.laysM284:Go.Proofs.LaysM.n284 Tryz.prog Tryz.laysM284_ren:=by constructor;constructor;all_goals (intros;kernel_rfl)
open Go.Lib in
theorem Tryz.internal_strconv_numDigits (u:Nat) (h1:1≤u) (h2:u<18446744073709551616) (w:World) (htab:Lib.TabIs Tryz.prog w "internal/strconv.uint64pow10" .u64 Lib.pow10Tab) :
 Calls Tryz.prog 332 #[.int .u64 u] w fun e w'=>e = .returned (.int .i64 (Lib.nDigits u))∧w'=w:=Any.internal_strconv_numDigits Tryz.laysM284 u h1 h2 w htab
def Tryz.lays285_ren:Go.Shelf.Ren:=⟨fun | 285=>333 | n=>n,fun | 37=>109 | 53=>164 | 3=>3 | 4=>4 | 51=>384 | 9=>9 | 5=>5 | 0=>0 | n=>n,fun | n=>n⟩
theorem Tryz.lays285:Go.Proofs.Lays.n285 Tryz.prog Tryz.lays285_ren:=by constructor<;>intros<;>kernel_rfl
open Go.RowKit Go.Sort Go.Lib in
theorem Tryz.internal_strconv_formatBase10 (blk off cap:Nat) (u:Nat) (d:Array UInt8) (w:World) (hH:Holds (fun (b:UInt8)=>Value.int .u8 (b.toNat:Int)) w blk off d) (hu:u<10^d.size) (hu64:u<18446744073709551616) (hsz:d.size<4611686018427387904) :
 Calls Tryz.prog 333 #[.slice (some ⟨blk,off,none⟩) d.size cap,.int .u64 u] w fun e w' =>
  e = .returned (.tuple #[])∧∃ (n v':Nat) (dk:Array UInt8),w'=(putRow (fun (b:UInt8)=>Value.int .u8 (b.toNat:Int)) w blk off dk).drewN n∧FmtInv d.size u 0 v' dk:=Any.internal_strconv_formatBase10 Tryz.lays285 blk off cap u d w hH hu hu64 hsz
def Tryz.lays219_ren:Go.Shelf.Ren:=⟨fun | 219=>306 | 217=>338 | 225=>339 | 224=>340 | 267=>341 | 266=>362 | 314=>363 | n=>n,fun | 9=>9 | 3=>3 | 4=>4 | 5=>5 | 46=>110 | 146=>385 | 51=>384 | n=>n,fun | 1=>2 | n=>n⟩
theorem Tryz.lays219:Go.Proofs.Lays.n219 Tryz.prog Tryz.lays219_ren:=by constructor<;>intros<;>kernel_rfl
open Go.RowKit Go.Lib in
theorem Tryz.stringslite_Index_one (s:ByteArray) (c:UInt8) (w:World) :
 Calls Tryz.prog 306 #[.string s,.string ⟨#[c]⟩] w fun e w'=>e = .returned (.int .i64 (Lib.indexByte s.data.toList c))∧w'=w:=Any.stringslite_Index_one Tryz.lays219 s c w
def Tryz.lays227_ren:Go.Shelf.Ren:=⟨fun | 227=>344 | n=>n,fun | 9=>9 | 116=>392 | 4=>4 | 0=>0 | 3=>3 | 5=>5 | n=>n,fun | n=>n⟩
theorem Tryz.lays227:Go.Proofs.Lays.n227 Tryz.prog Tryz.lays227_ren:=by constructor<;>intros<;>kernel_rfl
open Go.RowKit Go.Lib in
theorem Tryz.strings_makeASCIISet (hv116:∀ w,(zeroValue 392).run Tryz.prog w = .ok (.agg (Array.replicate 256 (.bool false))) w) (chars:ByteArray) (w:World) (hs:chars.size<4294967281) (hascii:∀ (j:Nat) b,chars.data.toList[j]? = some b→b.toNat<128) :
 Calls Tryz.prog 344 #[.string chars] w fun e w'=>e = .returned (.tuple #[.agg (Lib.setCells chars.data.toList),.bool true])∧w'=w.alloc (.cells (Lib.setCells chars.data.toList) 392):=Any.strings_makeASCIISet Tryz.lays227 hv116 (by kernel_rfl) chars w hs hascii
def Tryz.lays228_ren:Go.Shelf.Ren:=⟨fun | 228=>364 | n=>n,fun | 124=>396 | 5=>5 | 4=>4 | 0=>0 | 116=>392 | n=>n,fun | n=>n⟩
theorem Tryz.lays228:Go.Proofs.Lays.n228 Tryz.prog Tryz.lays228_ren:=by constructor<;>intros<;>kernel_rfl
open Go.RowKit Go.Lib in
theorem Tryz.asciiSet_contains (b:Nat) (x:UInt8) (v:Bool) (w:World) (hc:w.cell? ⟨b,x.toNat,none⟩=some (.bool v)) :
 Calls Tryz.prog 364 #[.pointer (some ⟨b,0,none⟩),.int .u8 x.toNat] w fun e w'=>e = .returned (.bool v)∧w'=w:=Any.asciiSet_contains Tryz.lays228 b x v w hc
def Tryz.lays264_ren:Go.Shelf.Ren:=⟨fun | 264=>192 | n=>n,fun | 53=>164 | 46=>110 | n=>n,fun | n=>n⟩
theorem Tryz.lays264:Go.Proofs.Lays.n264 Tryz.prog Tryz.lays264_ren:=by constructor<;>intros<;>kernel_rfl
open Go.RowKit Go.Lib in
theorem Tryz.bits_Mul64 (x y:Nat) (hx:x<18446744073709551616) (hy:y<18446744073709551616) (w:World) :
 Calls Tryz.prog 192 #[.int .u64 x,.int .u64 y] w fun e w'=>e = .returned (.tuple #[.int .u64 ((x*y/18446744073709551616:Nat):Int),.int .u64 ((x*y%18446744073709551616:Nat):Int)])∧w'=w:=Any.bits_Mul64 Tryz.lays264 x y hx hy w
def Tryz.lays105_ren:Go.Shelf.Ren:=⟨fun | 105=>241 | 212=>299 | 99=>300 | 165=>301 | 166=>302 | 170=>303 | 169=>304 | 263=>335 | 264=>192 | 206=>305 | 240=>336 | 241=>337 | 276=>360 | 277=>361 | n=>n,fun | 9=>9 | 3=>3 | 4=>4 | 20=>20 | 0=>0 | 46=>110 | 109=>351 | 5=>5 | 72=>356 | 76=>360 | 51=>384 | 146=>385 | 53=>164 | 148=>270 | 70=>354 | 37=>109 | 75=>359 | 127=>387 | 164=>409 | 80=>221 | n=>n,fun | n=>n⟩
theorem Tryz.lays105:Go.Proofs.Lays.n105 Tryz.prog Tryz.lays105_ren:=by constructor<;>intros<;>kernel_rfl
theorem Tryz.Builder_Extra_105:Builder.Extra Tryz.prog Tryz.lays105_ren:={
 sizeBuilder:=by kernel_rfl
 liesBuilder:=by kernel_rfl
 t5:=Tryz.underlying5
 a5:=Tryz.isAgg5
 z5:=Tryz.sizeOf5
 v5:=Tryz.zeroValue5
 infoByte:=by kernel_rfl
 cellsByte:=by kernel_rfl
 sizeByte:=by kernel_rfl
 neB5:=by decide }
open Go.RowKit Go.Lib in
theorem Tryz.strings_Repeat (s:ByteArray) (c:Nat) (w:World) (hc:c≤9223372036854775807) (hlen:s.size*c≤140737488355328) :
 Calls Tryz.prog 241 #[.string s,.int .i64 c] w fun e w'=>e = .returned (.string ⟨(Lib.repeatL s.data.toList c).toArray⟩)∧Below w.heap.size w w':=Any.strings_Repeat Tryz.lays105 Tryz.Builder_Extra_105 s c w hc hlen
def Tryz.laysNm217_ren:Go.Shelf.Ren:=⟨fun | 17=>242 | n=>n,fun | 24=>304 | 9=>9 | 3=>3 | 4=>4 | 0=>0 | n=>n,fun | n=>n⟩
theorem Tryz.laysNm217:Go.Proofs.Lays2.n17 Tryz.prog Tryz.laysNm217_ren:=by constructor<;>intros<;>kernel_rfl
open Go.RowKit Go.Lib Go.Sort in
theorem Tryz.slices_Reverse_string (blk off cap:Nat) (zs:List (List UInt8)) (w:World) (hH:Holds encStr w blk off zs.toArray) (hsz:zs.length≤9223372036854775807) :
 Calls Tryz.prog 242 #[.slice (some ⟨blk,off,none⟩) zs.length cap] w fun e w'=>e = .returned (.tuple #[])∧∃ n,w'=putRow encStr (Sort.ahead w n) blk off zs.reverse.toArray:=Any.slices_Reverse_string Tryz.laysNm217 blk off cap zs w hH hsz
end Go.Proofs
namespace Go.Proofs.YtjiendlfobjanaaGreatDoor
open Go Go.RowKit Go.Proofs Tryz
set_option maxRecDepth 10000
set_option maxHeartbeats 2000000
section
variable {N0 X a b c c1 d hi i j l1 l2 lo m n o:Nat} {O ds xs ys:List Nat} {w:World}
theorem Mul64_ok {x y:Nat} (l:x<18446744073709551616) (z:y<18446744073709551616) (w:World) :
 Ret prog 192 #[.int .u64 (x:Int),.int .u64 (y:Int)] w (fun v w'=>w'=w/\v = .tuple #[.int .u64 ((x*y/18446744073709551616:Nat):Int),.int .u64 ((x*y%18446744073709551616:Nat):Int)]) :=
 (Tryz.bits_Mul64 x y l z w).mono fun e w' ⟨he,h⟩=>⟨_,he,by rw [h];exact Ext.refl w,h,rfl⟩
attribute [local irreducible] Runs WPE CallK Ret
theorem zKn:∀ (ds:List Nat) (k d:Nat),k<ds.length->nat64 (ds.set k d)+18446744073709551616^k*ds.getD k 0=nat64 ds+18446744073709551616^k*d
 | x :: ds,0,d,_=>by simp only [List.set_cons_zero,nat64,Nat.pow_zero,eG,List.getD_cons_zero];omega
 | x :: ds,k+1,d,h=>by
  have l:=zKn ds k d (by simpa using h);simp only [io,nat64,List.getD_cons_succ,dB];generalize 18446744073709551616^k=B at *;generalize ds.getD k 0=e at *;have h1:18446744073709551616*(nat64 (ds.set k d)+B*e)=18446744073709551616*(nat64 ds+B*d):=by rw [l]
  rw [dV,dV] at h1;have z:B*18446744073709551616*e=18446744073709551616*(B*e):=by rw [dm B,dt]
  have A:B*18446744073709551616*d=18446744073709551616*(B*d):=by rw [dm B,dt]
  rw [z,A];omega
theorem Dig.set (h:Dig ds) (k:Nat) (l:d<18446744073709551616):Dig (ds.set k d):=fun x z=>by
 rcases List.mem_or_eq_of_mem_set z with h1 | h1
 . exact h x h1
 . rw [h1];exact l
theorem zMZ {x y:Nat} (h:x<18446744073709551616) (l:y<18446744073709551616) (w:World) :
 Ret prog 192 #[.int .u64 (x:Int),.int .u64 (y:Int)] w (fun v w'=>w'=w/\∃ hi lo:Nat,v = .tuple #[.int .u64 (hi:Int),.int .u64 (lo:Int)]/\lo+18446744073709551616*hi=x*y/\lo<18446744073709551616) :=
 (Mul64_ok h l w).mono fun v w' _ ⟨h1,z⟩=>⟨h1,_,_,z,Nat.mod_add_div _ _,eE _ dE⟩
theorem zHh (x y c:Nat) (l:x<18446744073709551616) (z:y<18446744073709551616) (h:c<=1) :
 ∃ s k:Nat,(∀ w,(callFunc 193 #[.int .u64 (x:Int),.int .u64 (y:Int),.int .u64 (c:Int)]).run prog w = .ok (.value (.tuple #[.int .u64 (s:Int),.int .u64 (k:Int)])) w)/\s+18446744073709551616*k=x+y+c/\s<18446744073709551616/\k<=1 :=
 ⟨_,_,fun w=>zLE x y c h w,Nat.mod_add_div _ _,eE _ dE,oM⟩
theorem zQO (x y c:Nat) (l:x<18446744073709551616) (z:y<18446744073709551616) (h:c<=1) :
 ∃ s k:Nat,(∀ w,(callFunc 294 #[.int .u64 (x:Int),.int .u64 (y:Int),.int .u64 (c:Int)]).run prog w = .ok (.value (.tuple #[.int .u64 (s:Int),.int .u64 (k:Int)])) w)/\s+(y+c)=x+18446744073709551616*k/\s<18446744073709551616/\k<=1 :=
 ⟨(fSub x y c).1,(fSub x y c).2,fun w=>zOw x y c h w,zJi l z h,eE _ dE,zFB x y c⟩
theorem mul_num {x y h:Nat} (z:x<18446744073709551616) (A:y<18446744073709551616) (C:o<18446744073709551616) (E:c<18446744073709551616)
 (F:lo+18446744073709551616*hi=x*y) (H:l1+18446744073709551616*c1=lo+o+0) (I:l2+18446744073709551616*h=l1+c+0) :
 hi+c1<18446744073709551616/\hi+c1+h<18446744073709551616/\l2+18446744073709551616*(hi+c1+h)=x*y+o+c:=by
 have l:x*y<=18446744073709551615*18446744073709551615:=fs oM oM;generalize x*y=t at *;omega
theorem zNE {x y z:Nat} (l:i+j<O.length) (h:nat64 O+18446744073709551616^(i+j)*c=N0+18446744073709551616^i*(x*X))
 (A:l2+18446744073709551616*z=x*y+O.getD (i+j) 0+c):nat64 (O.set (i+j) l2)+18446744073709551616^(i+(j+1))*z=N0+18446744073709551616^i*(x*(X+18446744073709551616^j*y)):=by
 have h1:=zKn O (i+j) l2 l;rw [<- iB,dB,dV,dV,<- dt x,dm x (_^j),dt (_^j),<- dt (_^i) (_^j),<- eM,dt];generalize 18446744073709551616^(i+j)=B at *;generalize 18446744073709551616^i*(x*X)=M at *;generalize O.getD (i+j) 0=o at *;generalize x*y=xy at *;have h2:B*(l2+18446744073709551616*z)=B*(xy+o+c):=by rw [A]
 simp only [dV] at h2;omega
theorem zCK (n:Nat):Dig (List.replicate n 0):=fun d h=>by rw [List.mem_replicate] at h;omega
theorem zFS (n k:Nat):(List.replicate n 0).getD k 0=0:=by
 simp only [cC,gN];split<;>rfl
theorem zFu:∀ n,nat64 (List.replicate n 0)=0
 | 0=>rfl
 | n+1=>by rw [gz,nat64,zFu n]
theorem zPE {y:Nat} (h:∀ k,i+y<=k->O.getD k 0=0) (l:j<y):∀ k,i+y<=k->(O.set (i+j) d).getD k 0=0:=fun k hk=>by
 have:=h k hk;simp only [cC] at this ⊢;rw [fz oM];exact this
theorem zOf {y:Nat} (h:∀ k,i+y<=k->O.getD k 0=0):∀ k,i+1+y<=k->(O.set (i+y) d).getD k 0=0:=fun k hk=>by
 have:=h k oM;simp only [cC] at this ⊢;rw [fz oM];exact this
theorem zKl (l:i+ys.length<O.length) (h:nat64 O+18446744073709551616^(i+ys.length)*c=nat64 (xs.take i)*nat64 ys+18446744073709551616^i*(xs.getD i 0*nat64 ys))
 (z:∀ k,i+ys.length<=k->O.getD k 0=0):nat64 (O.set (i+ys.length) c)=nat64 (xs.take (i+1))*nat64 ys:=by
 have h1:=zKn O (i+ys.length) c l;rw [z _ (cX _),fW,fw] at h1;rw [h1,h,nat64_take_succ',eF,dt]
theorem wrap_carry (h1:a+b<18446744073709551616) (h:a+b+c<18446744073709551616):IntKind.u64.wrap (IntKind.u64.wrap ((a:Int)+(b:Int))+(c:Int))=((a+b+c:Nat):Int):=by
 rw [zCm,zCm];omega
theorem zGR {x y:Value} (hx:IsW w x m) (hy:IsW w y n) (hm:Fit m) (hn:Fit n):Ret prog 103 #[x,y] w (fun v w'=>IsW w' v (m*n)):=by
 obtain ⟨pa,xs,ca,rfl,ba,C,aa,aw⟩:=hx;obtain ⟨pb,ys,cb,rfl,bb,E,ab,ax⟩:=hy;subst aw;subst ax;have hlx:=aa.fit hm;have hly:=ab.fit hn;refine J0 80 func103 rfl (rj (ag (rM 3 ?_)));refine rJ (K1 (zG zj rfl (mv (K1 (zG zj rfl (K8 rfl ?_))))));have hw1:IntKind.i64.wrap (((xs.length:Nat):Int)+((ys.length:Nat):Int))=((xs.length+ys.length:Nat):Int):=by rw [zm oM oM];omega
 refine K1 (zAK zEn zHZ rfl (cW (Value.int .i64) hw1) (cW (Value.int .i64) hw1) oM oM oM fun b w1 ad hE F hs => ?_);have ak:w.heap.size<=b:=by rw [ad];exact E0.size
 have al:=C.ne (dS ad.symm);have am:=E.ne (dS ad.symm);obtain ⟨E0,C,E⟩:=V2 hE E0 C.ext E.ext;rw [show ((xs.length+ys.length:Nat):Int).toNat=xs.length+ys.length from by omega,show (Value.int IntKind.u64 0).cells.toList=[Value.int IntKind.u64 0] from rfl,zAp] at F;refine ag (rM 35 ?_);refine zA (rJ (K1 (zG zj rfl (mv (rM 7340067 ?_)))));refine zF ?_;refine zX (X:=Nat) (fun i ρ w'=>Keep ρ [(0,.slice pa xs.length ca),(1,.slice pb ys.length cb),(5,.slice (some ⟨b,0,none⟩) (xs.length+ys.length) (xs.length+ys.length)),(20,.slice pa xs.length ca),(21,.int .i64 (xs.length:Nat)),(22,.int .i64 (i:Nat))]/\i<=xs.length/\Ext w w'/\Rd w' pa xs/\Rd w' pb ys/\∃ O,O.length=xs.length+ys.length/\Dig O/\(∀ k,i+ys.length<=k->O.getD k 0=0)/\nat64 O=nat64 (xs.take i)*nat64 ys/\Blk w' b 164 (dv O)) (fun i=>xs.length-i) 0 ⟨(kp rfl),di _,E0,C,E,List.replicate (xs.length+ys.length) 0,sM,zCK _,fun k _=>zFS _ _,by rw [zFu];simp [nat64],F⟩ ?_;rintro i ay w1 ⟨hk,bc,E0,C,E,O,hO,h,H,z,F⟩;refine wpe_k _ hk ?_;refine rj (K8 rfl (rM 15728675 ?_));refine zA ?_;refine K0 rfl ?_ ?_<;>intro l
 . have az:i<xs.length:=t_lt l;obtain ⟨b2,o2,bd,an,aA,aB⟩:=C i az;refine sk (zA (zF (rJ (K1 (zH (b:=b2) (o:=o2) zj (cW (fun p=>Value.slice p xs.length ca) an) rfl oM oM (K1 (zD zAg rfl aA (by simpa using aB) (ag (ag (rM 7340259 ?_))))))))));refine rj (ag (rM 7340515 ?_));refine zA (rJ (K1 (zG zj rfl (mv (rM 946864611 ?_)))));refine zF ?_;refine zX (X:=Nat×Nat) (fun p ρ w'=>Keep ρ [(0,.slice pa xs.length ca),(1,.slice pb ys.length cb),(5,.slice (some ⟨b,0,none⟩) (xs.length+ys.length) (xs.length+ys.length)),(20,.slice pa xs.length ca),(21,.int .i64 (xs.length:Nat)),(22,.int .i64 (i:Nat)),(6,.int .i64 (i:Nat)),(7,.int .u64 (xs.getD i 0:Nat)),(8,.int .u64 (p.2:Nat)),(27,.slice pb ys.length cb),(28,.int .i64 (ys.length:Nat)),(29,.int .i64 (p.1:Nat))]/\p.1<=ys.length/\p.2<18446744073709551616/\Ext w w'/\Rd w' pa xs/\Rd w' pb ys/\∃ O,O.length=xs.length+ys.length/\Dig O/\(∀ k,i+ys.length<=k->O.getD k 0=0)/\nat64 O+18446744073709551616^(i+p.1)*p.2=nat64 (xs.take i)*nat64 ys+18446744073709551616^i*(xs.getD i 0*nat64 (ys.take p.1))/\Blk w' b 164 (dv O)) (fun p=>ys.length-p.1) (0,0) ⟨(kp rfl),di _,dE,E0,C,E,O,hO,h,fun k hk=>H k hk,by rw [z];simp [nat64],F⟩ ?_
   rintro ⟨j,c⟩ ay w2 ⟨hk,aC,l,E0,C,E,O,hO,h,H,z,F⟩;simp only at hk aC l z;refine wpe_k _ hk ?_;refine rj (K8 rfl (rM 2020606435 ?_));refine zA ?_;refine K0 rfl ?_ ?_<;>intro l
   . have ae:=l;clear l;rename _<18446744073709551616=>l;have hjlt:j<ys.length:=t_lt ae;obtain ⟨b3,o3,be,ao,aD,aE⟩:=E j hjlt;have I:IntKind.i64.wrap (((i:Nat):Int)+((j:Nat):Int))=((i+j:Nat):Int):=by rw [zm oM oM];omega
     have A:0+((i+j:Nat):Int).toNat*1=i+j:=oM
     refine sk (zA (zF (rJ (K1 (zH (b:=b3) (o:=o3) zj (cW (fun p=>Value.slice p ys.length cb) ao) rfl oM oM (K1 (zD zAg rfl aD (by simpa using aE) (ag (ag (rM 946866147 ?_))))))))));refine rJ (mv (K1 (zJ yB (CallK.of_ret (zMZ (aa.1.getD i) (ab.1.getD j) _) fun v1 w3 hE hr => ?_) rfl)));obtain ⟨rfl,hi,lo,rfl,e1,aF⟩:=hr;obtain ⟨l1,c1,ap,e2,aG,bf⟩:=zHh lo (O.getD (i+j) 0) 0 aF (h.getD _) dE;obtain ⟨l2,c2,aq,e3,aH,bg⟩:=zHh l1 c 0 aG l dE;obtain ⟨n1,n2,n3⟩:=mul_num (aa.1.getD i) (ab.1.getD j) (h.getD (i+j)) l e1 e2 e3;refine mv (xt rfl (xt rfl (ag (ag (rM 946871267 ?_)))));refine rJ (mv (mv (mv (K8 rfl (K1 (zH (b:=b) (o:=0) (ix:=((i+j:Nat):Int)) zj rfl (cW (Value.int .i64) I) oM oM ?_))))));refine K1 (zD zAg rfl F (by rw [A];exact zDP O (i+j) oM) ?_);refine K1 (zIr (ap _) rfl (mv (xt rfl (xt rfl (ag (ag (rM 946879459 ?_)))))));refine rJ (mv (K8 rfl (ag (rM 946871267 ?_))));refine rJ (mv (K1 (zIr (aq _) rfl (mv (xt rfl (xt rfl (ag (ag (rM 946879459 ?_)))))))));refine rI (mv (mv (K8 rfl (mv (mv (mv (K8 rfl (K1 (zH (b:=b) (o:=0) (ix:=((i+j:Nat):Int)) zj rfl (cW (Value.int .i64) I) oM oM ?_)))))))))
     refine K1 (zc zDZ rfl F rfl (by rw [A,zAO];omega) dE rfl fun w4 Z hN => ?_);have aI:=wrap_carry n1 n2;refine ag (rl (zN (zK (K5 [0,1,5,6,7,8,20,21,22,27,28,29] ?_))));refine K6 (K8 rfl (mv (rl (zL ?_))));exact ⟨rfl,(j+1,_),⟨⟨rfl,rfl,rfl,rfl,rfl,rfl,rfl,rfl,rfl,rfl,rfl,rfl,rfl,rfl,rfl,rfl,rfl,cW (Value.int .u64) aI,rfl,rfl,rfl,rfl,rfl,cW (Value.int .i64) (wrap_succ oM),trivial⟩,oM,n2,E0.upd Z ak,C.upd' Z al,E.upd' Z am,_,by simp [hO],h.set _ aH,zPE H oM,by rw [zEi hjlt];exact zNE oM z n3,zAq hN A⟩,by simp only;omega⟩
   . have ae:=l;clear l;rename _<18446744073709551616=>l;obtain rfl:j=ys.length:=by have:=f_lt ae;omega
     have I:IntKind.i64.wrap (((i:Nat):Int)+((ys.length:Nat):Int))=((i+ys.length:Nat):Int):=by rw [zm oM oM];omega
     have A:0+((i+ys.length:Nat):Int).toNat*1=i+ys.length:=oM
     have aJ:=hO;have ar:=h;have J:=H;have M:=z;rw [ej] at M;refine zT (zt (zf (zI (zK (rI (mv (mv (K1 (zG zj rfl (K8 rfl (mv (K1 (zH (b:=b) (o:=0) (ix:=((i+ys.length:Nat):Int)) zj rfl (cW (Value.int .i64) I) oM oM ?_)))))))))))));refine K1 (zc zDZ rfl F rfl (by rw [A,zAO];omega) dE rfl fun w4 Z hN => ?_);refine rl (zN (zK (K5 [0,1,5,6,7,8,20,21,22,27,28,29] ?_)));exact K6 (K8 rfl (mv (rl (zL (⟨rfl,i+1,⟨kw,oM,E0.upd Z ak,C.upd' Z al,E.upd' Z am,_,by simp [aJ],ar.set _ l,zOf J,zKl oM M J,zAq hN A⟩,oM⟩)))))
 . have bh:=f_lt l;obtain rfl:i=xs.length:=by omega
   refine zT (zt (zf (zI (zK (rJ (K1 (j3 E0 C.ext E.ext F.ext yB (zFl hO (cX _) (Rd.of_blk F) h oM) fun aK w1 E0 C E F hr => ?_)))))));rw [z,ej] at hr;refine ag (rM 7340083 ?_);exact zE (en rfl E0 hr)
end
end Go.Proofs.YtjiendlfobjanaaGreatDoor
namespace Go.Proofs.YtjiendlfobjanaaGreatDoor
open Go Go.RowKit Go.Proofs Tryz
variable {K:Value->World->Prop} {P:Program} {a b c n:Nat} {af:Array Edge} {g:Option (Nat×Bool)} {k':IntKind} {pos:String} {r:Option Nat} {t' ty:TypeId} {w:World} {σ:Operand->Value}
theorem zRm (h:n<18446744073709551616):IntKind.u64.wrap (n:Int)=(n:Int):=by rw [zCm];omega
theorem zRl (v:BitVec 64) (h:v.toNat=n):IntKind.u64.wrap (v.toNat:Int)=(n:Int):=by
 rw [h];exact zRm (by rw [<- h];exact v.isLt)
theorem zIE (n:Nat) (h:n<18446744073709551616):(BitVec.ofInt 64 (n:Int)).toNat=n:=by
 rw [BitVec.toNat_ofInt];omega
section laws
variable {d:Option Tmp} {t:TypeId} {x y:Operand}
theorem zCu (c:Nat) (l:σ x = .int .u64 (a:Int)) (z:σ y = .int .u64 (b:Int)) (h:a+b=c) (C:c<18446744073709551616) (A:K (.int .u64 (c:Int)) w):Runs P r ⟨d,.binOp .add t x y t',ty,pos,af,g⟩ σ w K:=by
 refine zC l z rfl ?_;rw [zCm,show ((a:Int)+(b:Int))%18446744073709551616=(c:Int) from by omega];exact A
theorem zED (c:Nat) (l:σ x = .int .u64 (a:Int)) (z:σ y = .int .u64 (b:Int)) (h:c+b=a) (C:a<18446744073709551616) (A:K (.int .u64 (c:Int)) w):Runs P r ⟨d,.binOp .sub t x y t',ty,pos,af,g⟩ σ w K:=by
 refine zC l z rfl ?_;rw [zCm,show ((a:Int)-(b:Int))%18446744073709551616=(c:Int) from by omega];exact A
theorem zML (c:Nat) (l:σ x = .int .u64 (a:Int)) (z:σ y = .int .u64 (b:Int)) (h:IntKind.u64.wrap ((a:Int)-(b:Int))=(c:Int)) (A:K (.int .u64 (c:Int)) w):Runs P r ⟨d,.binOp .sub t x y t',ty,pos,af,g⟩ σ w K:=by
 refine zC l z rfl ?_;rw [h];exact A
theorem zDY (c:Nat) (l:σ x = .int .u64 (a:Int)) (z:σ y = .int .u64 (b:Int)) (h:a*b=c) (A:c<18446744073709551616) (C:K (.int .u64 (c:Int)) w):Runs P r ⟨d,.binOp .mul t x y t',ty,pos,af,g⟩ σ w K:=by
 refine zC l z rfl ?_;rw [show ((a:Int)*(b:Int))=((c:Nat):Int) from by rw [<- h];exact (gj a b).symm,zRm A];exact C
theorem zGx (c:Nat) (l:σ x = .int .u64 (a:Int)) (z:σ y = .int .u64 (b:Int)) (h:a*b%18446744073709551616=c) (A:K (.int .u64 (c:Int)) w):Runs P r ⟨d,.binOp .mul t x y t',ty,pos,af,g⟩ σ w K:=by
 refine zC l z rfl ?_;rw [zCm,show ((a:Int)*(b:Int))%18446744073709551616=((c:Nat):Int) from by rw [<- h,<- gj];omega];exact A
theorem zLI (c:Nat) (l:σ x = .int .u64 (a:Int)) (z:σ y = .int .u64 (b:Int)) (E:b≠0) (h:a/b=c) (A:c<18446744073709551616) (C:K (.int .u64 (c:Int)) w):Runs P r ⟨d,.binOp .quo t x y t',ty,pos,af,g⟩ σ w K:=by
 refine zCI l z oM ?_;rw [show (a:Int).tdiv (b:Int)=((c:Nat):Int) from by rw [<- h];rfl,zRm A];exact C
theorem zPC (c:Nat) (l:σ x = .int .u64 (a:Int)) (z:σ y = .int .u64 (b:Int)) (C:b≠0) (h:a%b=c) (A:K (.int .u64 (c:Int)) w):Runs P r ⟨d,.binOp .rem t x y t',ty,pos,af,g⟩ σ w K:=by
 refine zJt l z oM ?_;rw [show (a:Int).tmod (b:Int)=((c:Nat):Int) from by rw [<- h];rfl];exact A
theorem zGX {s:Nat} (c:Nat) (l:σ x = .int .u64 (a:Int)) (z:σ y = .int k' (s:Int)) (C:s<=64) (h:a*2^s%18446744073709551616=c) (A:K (.int .u64 (c:Int)) w):Runs P r ⟨d,.binOp .shl t x y t',ty,pos,af,g⟩ σ w K:=by
 refine zRT l z oM ?_;have e:min (s:Int).toNat IntKind.u64.bits=s:=by simp [IntKind.bits];omega
 rw [e,zCm];have:((a:Int)*2^s)%18446744073709551616=(c:Int):=by
  rw [<- h];have:((2:Int)^s)=((2^s:Nat):Int):=sM
  rw [this,<- gj];omega
 rw [this];exact A
theorem zFe {s:Nat} (c:Nat) (l:σ x = .int .u64 (a:Int)) (z:σ y = .int k' (s:Int)) (C:s<=64) (h:a/2^s=c) (A:K (.int .u64 (c:Int)) w):Runs P r ⟨d,.binOp .shr t x y t',ty,pos,af,g⟩ σ w K:=by
 refine runs_shr l z oM ?_;have e:min (s:Int).toNat IntKind.u64.bits=s:=by simp [IntKind.bits];omega
 rw [e];have:(a:Int).fdiv (2^s)=(c:Int):=by
  rw [<- h,show ((2:Int)^s)=((2^s:Nat):Int) from by simp];rw [Int.fdiv_eq_ediv_of_nonneg _ (Int.natCast_nonneg _)];rfl
 rw [this];exact A
theorem zPB (c:Nat) (l:σ x = .int .u64 (a:Int)) (z:σ y = .int .u64 (b:Int)) (A:a<18446744073709551616) (C:b<18446744073709551616) (h:a &&& b=c) (E:K (.int .u64 (c:Int)) w):Runs P r ⟨d,.binOp .and t x y t',ty,pos,af,g⟩ σ w K:=by
 refine zC l z rfl ?_;have:bits .and .u64 (a:Int) (b:Int)=(c:Int):=zRl (BitVec.ofInt 64 (a:Int) &&& BitVec.ofInt 64 (b:Int)) (by rw [BitVec.toNat_and,zIE a A,zIE b C,h]);rw [this];exact E
theorem zNW (c:Nat) (l:σ x = .int .u64 (a:Int)) (z:σ y = .int .u64 (b:Int)) (A:a<18446744073709551616) (C:b<18446744073709551616) (h:a ||| b=c) (E:K (.int .u64 (c:Int)) w):Runs P r ⟨d,.binOp .or t x y t',ty,pos,af,g⟩ σ w K:=by
 refine zC l z rfl ?_;have:bits .or .u64 (a:Int) (b:Int)=(c:Int):=zRl (BitVec.ofInt 64 (a:Int) ||| BitVec.ofInt 64 (b:Int)) (by rw [BitVec.toNat_or,zIE a A,zIE b C,h]);rw [this];exact E
theorem zBz {S D:TypeId} {u:TypeDesc} {k:IntKind} {n:Int} (h:P.underlying S=some u) (l:P.underlying D=some (.int k)) (z:σ x = .int k' n) (A:K (.int k (k.wrap n)) w):Runs P r ⟨d,.convert S D x,ty,pos,af,g⟩ σ w K:=by
 refine zy (fun _ e=>by cases e) ?_ A;simp [execOp,convert,run_underlying h,run_underlying l,z,Conv.intToInt]
theorem zGw {S D:TypeId} {u:TypeDesc} (c:Nat) (h:P.underlying S=some u) (l:P.underlying D=some (.int .u64)) (z:σ x = .int k' (c:Int)) (A:c<18446744073709551616) (C:K (.int .u64 (c:Int)) w):Runs P r ⟨d,.convert S D x,ty,pos,af,g⟩ σ w K:=by
 refine zBz h l z ?_;rw [zRm A];exact C
end laws
theorem zTD {s:Nat} (h:c<2^s):a*2^s ||| c=a*2^s+c:=by
 rw [dm];exact (Nat.two_pow_add_eq_or_of_lt h a).symm
theorem zQR:a &&& 4294967295=a%4294967296:=Nat.and_two_pow_sub_one_eq_mod a 32
variable {Y d hi lo n0 n1 rh:Nat}
theorem dinit {U:Nat} (l:Y=n1*4294967296+n0) (h0:n0<4294967296) (h1:2147483648<=n1) (E:n1<4294967296) (F:U<Y) (H:d<4294967296) :
 (U/n1)*n1+U%n1=U/\U%n1<4294967296/\U*4294967296+d<(U/n1+1)*Y/\U/n1<=4294967297:=by
 have z:(U/n1)*n1+U%n1=U:=by rw [dm];exact fZ U n1
 have I:U%n1<n1:=eE _ oM;refine ⟨z,oM,?_,?_⟩
 . rw [l,dV,<- dt,eF (U/n1) 1 n1];have:0<=(U/n1+1)*n0:=di _;generalize (U/n1)*n1=A at *;generalize (U/n1+1)*n0=C at *;omega
 . rcases dR (U/n1) 4294967298 with h | h
   . omega
   . have:=dx n1 h;generalize (U/n1)*n1=A at *;omega
theorem dstep {U q:Nat} (l:Y=n1*4294967296+n0) (E:U<Y) (F:d<4294967296) (hi:q*n1+rh=U) (z:4294967296<=q\/4294967296*rh+d<q*n0) :
 U*4294967296+d<q*Y/\1<=q:=by
 have h1:U*4294967296+d<q*Y:=by
  rcases z with h | h
  . have:=dx Y h;generalize q*Y=A at *;omega
  . rw [l,dV,<- dt];generalize q*n1=A at *;generalize q*n0=C at *;omega
 refine ⟨h1,?_⟩;rcases q with _ | q
 . simp at h1
 . omega
theorem ddown {U q:Nat} (h:1<=q) (hi:q*n1+rh=U):(q-1)*n1+(rh+n1)=U:=by
 obtain ⟨k,rfl⟩:∃ k,q=k+1:=⟨q-1,oM⟩;rw [eF] at hi;simp only [dD];omega
theorem zLf {U q:Nat} (h:Y=n1*4294967296+n0) (hi:q*n1+rh=U) (l:q*n0<=4294967296*rh+d):q*Y<=U*4294967296+d:=by
 rw [h,dV,<- dt];generalize q*n1=A at *;generalize q*n0=C at *;omega
theorem zQh {q:Nat} (h0:n0<4294967296) (h:q<=4294967296) (l:4294967296<=rh):q*n0<=4294967296*rh+d:=by
 have h1:=fs h (eU h0);generalize q*n0=C at *;omega
theorem zTl {U q:Nat} (l:U<Y) (z:d<4294967296) (h:q*Y<=U*4294967296+d):q<4294967296:=by
 rcases dR q 4294967296 with h1 | h1
 . exact h1
 . have:=dx Y h1;generalize q*Y=A at *;omega
theorem drest {U q:Nat} (l:Y<18446744073709551616) (h1:q*Y<=U*4294967296+d) (h:U*4294967296+d<(q+1)*Y)
 (z:U*4294967296%18446744073709551616=a) (C:(a+d)%18446744073709551616=b) (E:q*Y%18446744073709551616=c) :
 IntKind.u64.wrap ((b:Int)-(c:Int))=((U*4294967296+d-q*Y:Nat):Int):=by
 rw [eF] at h;rw [zCm];generalize q*Y=A at *;omega
theorem dfinal {s y U L q1 q0 R1 R d1 d0:Nat} (Z:0<y) (h:y*2^s=Y) (E:U*18446744073709551616+L=n*2^s) (F:L=d1*4294967296+d0)
 (h1:q1*Y+R1=U*4294967296+d1) (h0:q0*Y+R=R1*4294967296+d0) (H:R<Y) :
 (q1*4294967296+q0)*y+R/2^s=n/\R/2^s<y:=by
 have l:(q1*4294967296+q0)*Y+R=n*2^s:=by
  have I:(q1*4294967296+q0)*Y=q1*Y*4294967296+q0*Y:=by rw [eF,dt,dm 4294967296 Y,<- dt]
  rw [<- E,F,I];clear E F I h;generalize q1*Y=A at *;generalize q0*Y=C at *;omega
 have J:0<2^s:=eq dE;rw [<- h,<- dt] at l;have hdv:2^s∣R:=by
  have M:2^s∣(q1*4294967296+q0)*y*2^s+R:=⟨n,by rw [l,dm]⟩;exact (Nat.dvd_add_right (Nat.dvd_mul_left _ _)).1 M
 obtain ⟨k,z⟩:=hdv;have hk':R/2^s=k:=by rw [z];exact ik k J
 rw [hk',];constructor
 . have:((q1*4294967296+q0)*y+k)*2^s=n*2^s:=by rw [eF,<- l,z,dm k]
   exact Nat.eq_of_mul_eq_mul_right J this
 . rw [z,<- h,dm y] at H;exact Nat.lt_of_mul_lt_mul_left H
theorem dshift {y s:Nat} (I:s<64) (h:lo<18446744073709551616) (l:hi<y) (J:y*2^s<18446744073709551616) :
 hi*2^s<18446744073709551616/\lo/2^(64-s)<2^s/\hi*2^s+lo/2^(64-s)<y*2^s /\
 (hi*2^s+lo/2^(64-s))*18446744073709551616+lo*2^s%18446744073709551616=(hi*18446744073709551616+lo)*2^s:=by
 have z:0<2^s:=eq dE;have hM:(18446744073709551616:Nat)=2^(64-s)*2^s:=by rw [<- eM,gi oM]
 have E:lo/2^(64-s)<2^s:=by
  rw [gp (eq dE),dm,<- hM];exact h
 have M:hi*2^s+2^s<=y*2^s:=by
  have:=dx (2^s) (show hi+1<=y from l);rwa [eF,eG] at this
 have F:lo*2^s/18446744073709551616=lo/2^(64-s):=by rw [hM];exact Nat.mul_div_mul_right lo _ z
 have H:=fZ (lo*2^s) 18446744073709551616;rw [F] at H;refine ⟨oM,E,oM,?_⟩;rw [eF,eF,dt hi 18446744073709551616,dm 18446744073709551616 (2^s),<- dt];generalize hi*2^s=A at *;generalize lo*2^s=C at *;generalize lo/2^(64-s)=D at *;omega
theorem LZ_ok {y:Nat} (h0:y≠0) (h:y<18446744073709551616) (w:World) :
 Ret prog 266 #[.int .u64 (y:Int)] w (fun v w'=>w'=w/\∃ s:Nat,v = .int .i64 (s:Int)/\s<64/\y*2^s<18446744073709551616/\9223372036854775808<=y*2^s) :=
 (Tryz.bits_LeadingZeros64 (y:Int) w oM oM).mono fun e w' ⟨he,l⟩=>by
  obtain ⟨b1,z,A⟩:=Lib.bitLenAux_bounds 64 y h h0;have b4:Lib.bitLen y<=64:=Lib.bitLen_le y 64 dE h;change 1<=Lib.bitLen y at b1;change 2^(Lib.bitLen y-1)<=y at z;change y<2^Lib.bitLen y at A;rw [fS] at he;generalize Lib.bitLen y=L at *;refine ⟨_,he,by rw [l];exact Ext.refl w,l,64-L,by congr 1;omega,oM,?_,?_⟩
  . have:=gg A (eq (n:=64-L) (by decide:0<2));rwa [<- eM,show L+(64-L)=64 from by omega] at this
  . have:=dx (2^(64-L)) z;rwa [<- eM,show L-1+(64-L)=63 from by omega] at this
variable {w1 w2:World}
section laws
variable {d:Option Tmp} {t:TypeId} {x y:Operand}
theorem zg (c:Nat) (l:σ x = .int .i64 (a:Int)) (z:σ y = .int .i64 (b:Int)) (h:a+b=c) (C:c<9223372036854775808) (A:K (.int .i64 (c:Int)) w):Runs P r ⟨d,.binOp .add t x y t',ty,pos,af,g⟩ σ w K:=by
 refine zC l z rfl ?_;rw [zm oM oM,show ((a:Int)+(b:Int))=(c:Int) from by omega];exact A
theorem zAL (c:Nat) (l:σ x = .int .i64 (a:Int)) (z:σ y = .int .i64 (b:Int)) (h:c+b=a) (C:a<9223372036854775808) (A:K (.int .i64 (c:Int)) w):Runs P r ⟨d,.binOp .sub t x y t',ty,pos,af,g⟩ σ w K:=by
 refine zC l z rfl ?_;rw [zm oM oM,show ((a:Int)-(b:Int))=(c:Int) from by omega];exact A
theorem zBw (c:Nat) (l:σ x = .int .i64 (a:Int)) (z:σ y = .int .i64 (b:Int)) (h:a*b=c) (C:c<9223372036854775808) (A:K (.int .i64 (c:Int)) w):Runs P r ⟨d,.binOp .mul t x y t',ty,pos,af,g⟩ σ w K:=by
 refine zC l z rfl ?_;have e:((a:Int)*(b:Int))=((c:Nat):Int):=by rw [<- h];exact (gj a b).symm
 rw [e,zm oM oM];exact A
theorem zAn (c:Nat) (l:σ x = .int .i64 (a:Int)) (z:σ y = .int .i64 (b:Int)) (C:b≠0) (h:a/b=c) (E:c<9223372036854775808) (A:K (.int .i64 (c:Int)) w):Runs P r ⟨d,.binOp .quo t x y t',ty,pos,af,g⟩ σ w K:=by
 refine zCI l z oM ?_;rw [show (a:Int).tdiv (b:Int)=((c:Nat):Int) from by rw [<- h];rfl,zm oM oM];exact A
theorem zAE (c:Nat) (l:σ x = .int .i64 (a:Int)) (z:σ y = .int .i64 (b:Int)) (C:b≠0) (h:a%b=c) (A:K (.int .i64 (c:Int)) w):Runs P r ⟨d,.binOp .rem t x y t',ty,pos,af,g⟩ σ w K:=by
 refine zJt l z oM ?_;rw [show (a:Int).tmod (b:Int)=((c:Nat):Int) from by rw [<- h];rfl];exact A
end laws
theorem Ext.updS (h:Ext w w1) (l:ExtS [b] w1 w2) (A:w.heap.size<=b):Ext w w2 :=
 ⟨l.os.trans (Below.os h),l.tape.trans (Below.tape h),l.output.trans (Below.output h),dz h.size l.size,fun k z=>(l.block k (fm z h.size) (by simp;omega)).trans (Below.block h k z)⟩
end Go.Proofs.YtjiendlfobjanaaGreatDoor
namespace Go.Proofs.YtjiendlfobjanaaGreatDoor
open Go Go.RowKit Go.Proofs Tryz
set_option maxRecDepth 10000
set_option maxHeartbeats 2000000
attribute [local irreducible] Runs WPE CallK Ret
variable {a b hi lo n0:Nat}
theorem zTT:prog.underlying 3=some (.int .i64):=kR
theorem zNf:prog.underlying 110=some (.int .u64):=kR
theorem dq0 (h:a<4294967296):a*4294967296<18446744073709551616:=oM
theorem dq (h:a<4294967296) (l:b<4294967296):a*4294967296+b<18446744073709551616:=oM
theorem dlt {q:Nat} (h:q<4294967296) (h0:n0<4294967296):q*n0<18446744073709551616:=by
 have:=fs (Nat.le_of_lt_succ h) (Nat.le_of_lt_succ h0);omega
theorem t_le (h:decide (((a:Nat):Int)≥((b:Nat):Int))=true):b<=a:=by rw [eA] at h;omega
theorem f_le (h:decide (((a:Nat):Int)≥((b:Nat):Int))=false):a<b:=by rw [ii] at h;omega
theorem zQJ {y:Nat} (hh:hi<y) (hl:lo<18446744073709551616) (hy:y<18446744073709551616) (w:World):Ret prog 268 #[.int .u64 (hi:Int),.int .u64 (lo:Int),.int .u64 (y:Int)] w (fun v _=>∃ q r:Nat,v = .tuple #[.int .u64 (q:Int),.int .u64 (r:Int)]/\q*y+r=hi*18446744073709551616+lo/\r<y/\q<18446744073709551616):=by
 refine J0 135 func268 rfl (rj (ag (ag (rM 7 ?_))));refine zA (rJ (K8 rfl (rM 1048583 ?_)));refine wcf (cW Value.bool (dk.2 oM)) (sk (zA (rJ (mv (K8 rfl (rM 16777223 ?_))))));refine wcf vF (sk (zA (rJ (K8 rfl (rm [0,1,2,27] ?_)))));refine K0 rfl ?_ ?_<;>intro z
 . obtain rfl:hi=0:=t_beq (b:=0) z;refine zA (zBx 8 mixed kR fun K hK=>qM (qM (qS (fun hE=>zLI (lo/y) rfl rfl oM rfl (eN (fg _ _) hl) eQ) (qM (qM (qS (fun hE=>zPC (lo%y) rfl rfl oM rfl eQ) (qS (fun hE=>zr eQ) (qS (fun hE=>zr eQ) (hK _ fun wq hE=>zAh ?_)))))))));replace E0:=E0.trans hE;refine zK (K5 [2,6,7] ?_);refine zE (zU (zM ?_));exact ⟨rfl,_,zv rfl rfl rfl,E0,_,_,rfl,by rw [gU,dW,dm];exact fZ lo y,eE _ oM,eN (fg _ _) hl⟩
 . skip
   refine sk (rJ (K1 (j0 E0 yB (LZ_ok oM hy _) fun aJ w1 E0 hr => ?_)));obtain ⟨hw,s,rfl,hs,E,aw⟩:=hr;subst w1;obtain ⟨Y,hY⟩:∃ Y,Y=y*2^s:=⟨_,rfl⟩;obtain ⟨k1,k2,k3,k4⟩:=dshift hs hl hh E;rw [<- hY] at E aw k3;obtain ⟨U,aa⟩:∃ U,U=hi*2^s+lo/2^(64-s):=⟨_,rfl⟩;obtain ⟨L,ab⟩:∃ L,L=lo*2^s%18446744073709551616:=⟨_,rfl⟩;rw [<- aa] at k3;rw [<- aa,<- ab] at k4;have hLM:L<18446744073709551616:=by rw [ab];exact eE _ dE
   obtain ⟨n1,ax⟩:∃ n1,n1=Y/2^32:=⟨_,rfl⟩;obtain ⟨n0,ay⟩:∃ n0,n0=Y%4294967296:=⟨_,rfl⟩;obtain ⟨d1,az⟩:∃ d1,d1=L/2^32:=⟨_,rfl⟩;obtain ⟨d0,aA⟩:∃ d0,d0=L%4294967296:=⟨_,rfl⟩;have l:Y=n1*4294967296+n0:=oM
   have aB:L=d1*4294967296+d0:=oM
   have h0:n0<4294967296:=oM
   have I:d1<4294967296:=oM
   have aC:d0<4294967296:=oM
   have h1:2147483648<=n1:=oM
   have ak:n1<4294967296:=oM
   refine K1 (zGw s zTT zNf rfl oM (ag (rM 263 ?_)));refine rJ (mv ?_);refine K1 (zGX (Y) rfl rfl oM (by rw [<- hY];exact fL E) ?_);refine ag (rM 263 ?_);refine rJ (K1 (zFe (s:=32) (n1) rfl rfl dE ax.symm (ag (rM 775 ?_))));refine rj (mv ?_);refine K1 (zPB (b:=4294967295) (n0) rfl rfl E dE (by rw [zQR];exact ay.symm) ?_);refine ag (rM 1799 ?_);refine rJ (mv (K1 (zGX (hi*2^s) rfl rfl oM (fL k1) (mv (mv (K1 (zED (a:=64) (64-s) rfl rfl oM dE (K1 (zFe (s:=64-s) (lo/2^(64-s)) rfl rfl oM rfl (K1 (zNW (U) rfl rfl k1 oM (by rw [zTD k2,aa]) (ag (rM 3846 ?_)))))))))))));refine rJ (mv (K1 (zGX (L) rfl rfl oM ab.symm (ag (rM 7940 ?_)))));refine rJ (K1 (zFe (s:=32) (d1) rfl rfl dE az.symm (ag (rM 16132 ?_))));refine rj (mv ?_);refine K1 (zPB (b:=4294967295) (d0) rfl rfl hLM dE (by rw [zQR];exact aA.symm) ?_);refine ag (rM 28420 ?_);refine zA ?_;have J:=k3;have h:=dinit l h0 h1 ak J I;refine rI (mv ?_);refine K1 (zLI (U/n1) rfl rfl oM rfl (by have:=fg U n1;omega) ?_);refine ag (rS 61188 ?_);refine rJ (mv (mv ?_));refine K1 (zDY (U/n1*n1) rfl rfl rfl (by have:=h.1;omega) ?_)
   refine K1 (zED (U%n1) rfl rfl (by have:=h.1;omega) oM ?_);refine ag (rM 126724 ?_);refine zBZ (fun Z w'=>∃ q:Nat,Keep Z [(2,.int .u64 (Y:Nat)),(8,.int .u64 (s:Nat)),(9,.int .u64 (n1:Nat)),(10,.int .u64 (n0:Nat)),(14,.int .u64 (d0:Nat)),(11,.int .u64 (U:Nat)),(13,.int .u64 (d1:Nat)),(15,.int .u64 (q:Nat))]/\w'=w/\q*Y<=U*4294967296+d1/\U*4294967296+d1<(q+1)*Y) ?_ ?_
   . refine zF (zX (X:=Nat×Nat) (fun p Z w'=>Keep Z [(2,.int .u64 (Y:Nat)),(8,.int .u64 (s:Nat)),(9,.int .u64 (n1:Nat)),(10,.int .u64 (n0:Nat)),(14,.int .u64 (d0:Nat)),(11,.int .u64 (U:Nat)),(13,.int .u64 (d1:Nat)),(15,.int .u64 (p.1:Nat)),(16,.int .u64 (p.2:Nat))]/\w'=w/\p.1*n1+p.2=U/\p.2<4294967296/\U*4294967296+d1<(p.1+1)*Y/\p.1<=4294967297) (fun p=>p.1) (U/n1,U%n1) ⟨(kp rfl),rfl,h⟩ ?_);rintro ⟨q,rh⟩ ad w2 ⟨M,hw,hi,ae,H,ah⟩;subst w2;simp only at M hi ae H ah;refine wpe_k _ M ?_;refine zA (zA ?_);rcases dR q 4294967296 with hq | hq
     . skip
       refine rI (K1 (zC (v := .bool false) rfl rfl (cW (fun b=>some (Value.bool b)) (cU oM)) (mv (K7 (K7 (K2 (zDY (q*n0) rfl rfl rfl (dlt hq h0) (K7 (K2 (zDY (a:=4294967296) (4294967296*rh) rfl rfl rfl oM (K7 (K2 (zCu (4294967296*rh+d1) rfl rfl rfl oM (K2 (zC rfl rfl rfl (pc0 rfl (rl (zK ?_))))))))))))))))));refine K5 [2,8,9,10,11,13,14,15,16,70,71,72,73,74,75,76,77,78] ?_;refine K0 rfl ?_ ?_<;>intro z
       . obtain ⟨F,A⟩:=dstep l J I hi (Or.inr (t_lt z));refine sk (zF (rJ (K1 (zED (b:=1) (q-1) rfl rfl oM oM (ag (rm [2,8,9,10,11,13,14,15,16,70,71,72,73,74,75,76,77] ?_))))));refine rJ (mv (K1 (zCu (rh+n1) rfl rfl rfl oM (ag (rm [2,8,9,10,11,13,14,15,16,70,71,72,73,74,75,76,77] ?_)))));refine rJ (K8 rfl (rm [2,8,9,10,11,13,14,15,16,70,71,72,73,74,75,76,77,85] ?_));refine K0 rfl ?_ ?_<;>intro z
         . refine zT (zDj dE (zf (zI (zL ?_))));exact ⟨rfl,q-1,(kp rfl),rfl,zLf l (ddown A hi) (zQh h0 oM (by have:=t_le z;omega)),by rw [gi A];exact F⟩
         . refine zw (zN (zL ?_));have C:=f_le z;exact ⟨rfl,(q-1,rh+n1),⟨(kp rfl),rfl,ddown A hi,C,by simp only;rw [gi A];exact F,by simp only;omega⟩,by simp only;omega⟩
       . have ai:=f_lt z;have hp:=zLf l hi ai;exact zT (zt (zf (zI (zL ⟨rfl,q,(kp rfl),rfl,hp,H⟩))))
     . skip
       refine rI (K1 (zC (v := .bool true) rfl rfl (cW (fun b=>some (Value.bool b)) (cZ oM)) (mv (K3 (K3 (K3 (K3 (K3 (K3 (K3 (K3 (pc0 rfl (rl (zK ?_))))))))))))));refine K5 [2,8,9,10,11,13,14,15,16,70,71,72,73,74,75,76,77,78] ?_;obtain ⟨F,A⟩:=dstep l J I hi (Or.inl hq);refine wct rfl (sk (zF (rJ (K1 (zED (b:=1) (q-1) rfl rfl oM oM (ag (rm [2,8,9,10,11,13,14,15,16,70,71,72,73,74,75,76,77] ?_)))))));refine rJ (mv (K1 (zCu (rh+n1) rfl rfl rfl oM (ag (rm [2,8,9,10,11,13,14,15,16,70,71,72,73,74,75,76,77] ?_)))));refine rJ (K8 rfl (rm [2,8,9,10,11,13,14,15,16,70,71,72,73,74,75,76,77,85] ?_));refine K0 rfl ?_ ?_<;>intro z
       . refine zT (zDj dE (zf (zI (zL ?_))));exact ⟨rfl,q-1,(kp rfl),rfl,zLf l (ddown A hi) (zQh h0 oM (by have:=t_le z;omega)),by rw [gi A];exact F⟩
       . refine zw (zN (zL ?_));have C:=f_le z;exact ⟨rfl,(q-1,rh+n1),⟨(kp rfl),rfl,ddown A hi,C,by simp only;rw [gi A];exact F,by simp only;omega⟩,by simp only;omega⟩
   . rintro ad w2 ⟨q1,M,hw,p1,p2⟩;subst w2;refine wpe_k _ M ?_;have aj:q1<4294967296:=zTl J I p1;obtain ⟨R1,al⟩:∃ R1,R1=U*4294967296+d1-q1*Y:=⟨_,rfl⟩;have hR1Y:R1<Y:=by rw [eF] at p2;omega
     refine rJ (K1 (zGx (b:=4294967296) (U*4294967296%18446744073709551616) rfl rfl rfl (mv ?_)));refine K1 (zC (v := .int .u64 (((U*4294967296%18446744073709551616+d1)%18446744073709551616:Nat):Int)) rfl rfl (by rw [ibin,zCm];rfl) ?_);refine mv (mv (K1 (zGx (q1*Y%18446744073709551616) rfl rfl rfl (K1 (zML (R1) rfl rfl (by rw [drest E p1 p2 rfl rfl rfl,al]) (ag (rM 192260 ?_)))))));refine zA ?_;clear I J;have I:=aC;have J:=hR1Y;have h:=dinit l h0 h1 ak J I;refine rI (mv ?_);refine K1 (zLI (R1/n1) rfl rfl oM rfl (by have:=fg R1 n1;omega) ?_);refine ag (rS 454404 ?_);refine rJ (mv (mv ?_));refine K1 (zDY (R1/n1*n1) rfl rfl rfl (by have:=h.1;omega) ?_);refine K1 (zED (R1%n1) rfl rfl (by have:=h.1;omega) oM ?_);refine ag (rM 519940 ?_);refine zBZ (fun Z w'=>∃ q:Nat,Keep Z [(2,.int .u64 (Y:Nat)),(8,.int .u64 (s:Nat)),(9,.int .u64 (n1:Nat)),(10,.int .u64 (n0:Nat)),(14,.int .u64 (d0:Nat)),(17,.int .u64 (R1:Nat)),(15,.int .u64 (q1:Nat)),(18,.int .u64 (q:Nat))]/\w'=w/\q*Y<=R1*4294967296+d0/\R1*4294967296+d0<(q+1)*Y) ?_ ?_
     . refine zF (zX (X:=Nat×Nat) (fun p Z w'=>Keep Z [(2,.int .u64 (Y:Nat)),(8,.int .u64 (s:Nat)),(9,.int .u64 (n1:Nat)),(10,.int .u64 (n0:Nat)),(14,.int .u64 (d0:Nat)),(17,.int .u64 (R1:Nat)),(15,.int .u64 (q1:Nat)),(18,.int .u64 (p.1:Nat)),(16,.int .u64 (p.2:Nat))]/\w'=w/\p.1*n1+p.2=R1/\p.2<4294967296/\R1*4294967296+d0<(p.1+1)*Y/\p.1<=4294967297) (fun p=>p.1) (R1/n1,R1%n1) ⟨(kp rfl),rfl,h⟩ ?_);rintro ⟨q,rh⟩ ad w2 ⟨M,hw,hi,ae,H,ah⟩;subst w2;simp only at M hi ae H ah;refine wpe_k _ M ?_;refine zA (zA ?_);rcases dR q 4294967296 with hq | hq
       . skip
         refine rI (K1 (zC (v := .bool false) rfl rfl (cW (fun b=>some (Value.bool b)) (cU oM)) (mv (K7 (K7 (K2 (zDY (q*n0) rfl rfl rfl (dlt hq h0) (K7 (K2 (zDY (a:=4294967296) (4294967296*rh) rfl rfl rfl oM (K7 (K2 (zCu (4294967296*rh+d0) rfl rfl rfl oM (K2 (zC rfl rfl rfl (pc0 rfl (rl (zK ?_))))))))))))))))));refine K5 [2,8,9,10,14,15,16,17,18,105,106,107,108,109,110,111,112,113] ?_;refine K0 rfl ?_ ?_<;>intro z
         . obtain ⟨F,A⟩:=dstep l J I hi (Or.inr (t_lt z));refine sk (zF (rJ (K1 (zED (b:=1) (q-1) rfl rfl oM oM (ag (rm [2,8,9,10,14,15,16,17,18,105,106,107,108,109,110,111,112] ?_))))));refine rJ (mv (K1 (zCu (rh+n1) rfl rfl rfl oM (ag (rm [2,8,9,10,14,15,16,17,18,105,106,107,108,109,110,111,112] ?_)))));refine rJ (K8 rfl (rm [2,8,9,10,14,15,16,17,18,105,106,107,108,109,110,111,112,120] ?_));refine K0 rfl ?_ ?_<;>intro z
           . refine zT (zDj dE (zf (zI (zL ?_))));exact ⟨rfl,q-1,(kp rfl),rfl,zLf l (ddown A hi) (zQh h0 oM (by have:=t_le z;omega)),by rw [gi A];exact F⟩
           . refine zw (zN (zL ?_));have C:=f_le z;exact ⟨rfl,(q-1,rh+n1),⟨(kp rfl),rfl,ddown A hi,C,by simp only;rw [gi A];exact F,by simp only;omega⟩,by simp only;omega⟩
         . have ai:=f_lt z;have hp:=zLf l hi ai;exact zT (zt (zf (zI (zL ⟨rfl,q,(kp rfl),rfl,hp,H⟩))))
       . skip
         refine rI (K1 (zC (v := .bool true) rfl rfl (cW (fun b=>some (Value.bool b)) (cZ oM)) (mv (K3 (K3 (K3 (K3 (K3 (K3 (K3 (K3 (pc0 rfl (rl (zK ?_))))))))))))));refine K5 [2,8,9,10,14,15,16,17,18,105,106,107,108,109,110,111,112,113] ?_;obtain ⟨F,A⟩:=dstep l J I hi (Or.inl hq);refine wct rfl (sk (zF (rJ (K1 (zED (b:=1) (q-1) rfl rfl oM oM (ag (rm [2,8,9,10,14,15,16,17,18,105,106,107,108,109,110,111,112] ?_)))))));refine rJ (mv (K1 (zCu (rh+n1) rfl rfl rfl oM (ag (rm [2,8,9,10,14,15,16,17,18,105,106,107,108,109,110,111,112] ?_)))));refine rJ (K8 rfl (rm [2,8,9,10,14,15,16,17,18,105,106,107,108,109,110,111,112,120] ?_));refine K0 rfl ?_ ?_<;>intro z
         . refine zT (zDj dE (zf (zI (zL ?_))));exact ⟨rfl,q-1,(kp rfl),rfl,zLf l (ddown A hi) (zQh h0 oM (by have:=t_le z;omega)),by rw [gi A];exact F⟩
         . refine zw (zN (zL ?_));have C:=f_le z;exact ⟨rfl,(q-1,rh+n1),⟨(kp rfl),rfl,ddown A hi,C,by simp only;rw [gi A];exact F,by simp only;omega⟩,by simp only;omega⟩
     . rintro ad w2 ⟨q0,M,hw,p3,p4⟩;subst w2;refine wpe_k _ M ?_;have am:q0<4294967296:=zTl J I p3;obtain ⟨R,hR⟩:∃ R,R=R1*4294967296+d0-q0*Y:=⟨_,rfl⟩;have hRY:R<Y:=by rw [eF] at p4;omega
       refine rJ (K1 (zDY (b:=4294967296) (q1*4294967296) rfl rfl rfl (dq0 aj) (mv (K1 (zCu (q1*4294967296+q0) rfl rfl rfl (dq aj am) (mv (K1 (zGx (b:=4294967296) (R1*4294967296%18446744073709551616) rfl rfl rfl (mv ?_)))))))));refine K1 (zC (v := .int .u64 (((R1*4294967296%18446744073709551616+d0)%18446744073709551616:Nat):Int)) rfl rfl (by rw [ibin,zCm];rfl) ?_);refine mv (mv (K1 (zGx (q0*Y%18446744073709551616) rfl rfl rfl (K1 (zML (R) rfl rfl (by rw [drest E p3 p4 rfl rfl rfl,hR]) (mv (K1 (zFe (s:=s) (R/2^s) rfl rfl oM rfl (ag (ag (rM 444356 ?_)))))))))));refine zE (zM ?_);obtain ⟨f1,f2⟩:=dfinal (q1:=q1) (q0:=q0) (R1:=R1) (R:=R) (Nat.zero_lt_of_lt hh) hY.symm k4 aB (by rw [al];exact Nat.add_sub_of_le p1) (by rw [hR];exact Nat.add_sub_of_le p3) hRY;exact ⟨rfl,_,zv rfl rfl rfl,E0,_,_,rfl,f1,f2,dq aj am⟩
variable {O xs:List Nat} {d k m n rest:Nat} {w:World}
theorem zKO (h:k<O.length):nat64 ((O.set k d).drop k)=d+18446744073709551616*nat64 (O.drop (k+1)):=by
 rw [zGr (by simpa using h)];congr 1
 . simp [h]
 . rw [List.drop_set_of_lt oM]
theorem by1_step {q r:Nat} (h:k<xs.length) (l:k<O.length) (hi:nat64 (O.drop (k+1))*b+rest=nat64 (xs.drop (k+1))) (z:q*b+r=rest*18446744073709551616+xs.getD k 0) :
 nat64 ((O.set k q).drop k)*b+r=nat64 (xs.drop k):=by
 rw [zKO l,zGr h,<- hi,eF,dt];generalize nat64 (O.drop (k+1))*b=A at *;generalize q*b=C at *;omega
theorem divmod_of {q r:Nat} (h:q*b+r=n) (l:r<b):n/b=q/\n%b=r:=by
 subst h;constructor
 . rw [dm,Nat.mul_add_div oM,fE l,fw]
 . rw [dm,Nat.mul_add_mod,fL l]
theorem zQV {x:Value} (I:IsW w x m) (hm:Fit m) (ar:0<b) (hb:b<18446744073709551616):Ret prog 239 #[x,.int .u64 (b:Int)] w (fun v w'=>∃ q,v = .tuple #[q,.int .u64 ((m%b:Nat):Int)]/\IsW w' q (m/b)):=by
 obtain ⟨pa,xs,ca,rfl,au,h,hx,J⟩:=I;subst J;have hlx:=hx.fit hm;refine J0 35 func239 rfl (rj (ag (ag (rM 3 ?_))));refine rJ (K1 (zG zj rfl ?_));refine K1 (zAK zEn zHZ rfl rfl rfl oM oM oM fun F w1 hb1 hE l hs => ?_);have hgb:w.heap.size<=F:=by rw [hb1];exact E0.size
 have M:=h.ne (dS hb1.symm);obtain ⟨E0,h⟩:=V1 hE E0 h.ext;rw [show ((xs.length:Nat):Int).toNat=xs.length from by omega,show (Value.int IntKind.u64 0).cells.toList=[Value.int IntKind.u64 0] from rfl,zAp] at l;refine ag (rM 67 ?_);refine rj (ag (rM 195 ?_));refine zA (rJ (K1 (zG zj rfl (K1 (zC (v := .int .i64 (((xs.length:Nat):Int)-1)) rfl rfl (sI (zm oM oM)) (ag (rM 451 ?_)))))));refine zF (zX (X:=Nat×Nat) (fun p ρ w'=>Keep ρ [(0,.slice pa xs.length ca),(1,.int .u64 (b:Nat)),(6,.slice (some ⟨F,0,none⟩) xs.length xs.length),(7,.int .u64 (p.2:Nat)),(8,.int .i64 (((p.1:Nat):Int)-1))]/\p.1<=xs.length/\p.2<b/\Ext w w'/\Rd w' pa xs/\∃ O,O.length=xs.length/\Dig O/\nat64 (O.drop p.1)*b+p.2=nat64 (xs.drop p.1)/\Blk w' F 164 (dv O)) (fun p=>p.1) (xs.length,0) ⟨(kp rfl),cX _,oM,E0,h,List.replicate xs.length 0,sM,zCK _,by simp [nat64],l⟩ ?_);rintro ⟨k,rest⟩ ρ1 w1 ⟨hk,Z,A,E0,h,O,hO,C,z,l⟩;simp only at hk Z A z;refine wpe_k _ hk ?_;refine zA (zA ?_);rcases k with _ | k
 . skip
   refine rI (K8 rfl (rS 65987 ?_));refine wcf vF (zT (zt (zf (zI (zK (rJ (K1 (j2 E0 h.ext l.ext yB (zFl hO (cX _) (Rd.of_blk l) C oM) fun E w1 E0 h l H => ?_))))))));rw [eT,eT] at z;refine mv (ag (ag (rM 499 ?_)));refine zE (zM ?_);obtain ⟨d1,d2⟩:=divmod_of z A;exact ⟨rfl,_,zv rfl rfl rfl,E0,E,by rw [d2];rfl,by rw [d1];exact H⟩
 . obtain ⟨b2,o2,av,aa,ab,ad⟩:=h k oM;have hw1:((k+1:Nat):Int)-1=(k:Int):=by omega
   have ae:IntKind.i64.wrap (((k+1:Nat):Int)-1-1)=(k:Int)-1:=by rw [zm oM oM];omega
   refine rI (K8 rfl (rS 65987 ?_));refine wct vT (sk (zA (zF (rI (mv (mv (mv (mv (K1 (zH (ix:=k) (b:=b2) (o:=o2) zj (cW (fun p=>Value.slice p xs.length ca) aa) (cW (Value.int .i64) hw1) oM oM (K1 (zD zAg rfl ab (by simpa using ad) (mv (K1 (j2 E0 h.ext l.ext yB (zQJ A (hx.1.getD k) hb _) fun v6_8 w1 E0 h l H => ?_)))))))))))))));obtain ⟨q,r,rfl,ah,ai,aj⟩:=H;refine mv (xt rfl (xt rfl (K1 (zH (ix:=k) (b:=F) (o:=0) zj rfl (cW (Value.int .i64) hw1) oM oM ?_))));refine K1 (zc zDZ rfl l rfl (by rw [zAO];omega) dE rfl fun w3 hU hN => ?_);refine ag (rl (zN (zK (K5 [0,1,6,7,8] ?_))));refine rI (K8 rfl (ag (rl (zL ?_))));exact ⟨rfl,(k,r),⟨⟨rfl,rfl,rfl,rfl,rfl,rfl,rfl,rfl,rfl,cW (Value.int .i64) ae,trivial⟩,by simp only;omega,ai,E0.upd hU hgb,h.upd' hU M,_,by simp [hO],C.set _ aj,by1_step oM oM z ah,zAq hN oM⟩,by simp only;omega⟩
variable {B V b1 c1 carry cu j l1 o t:Nat} {K:Value->World->Prop} {P:Program} {U vs:List Nat} {af:Array Edge} {f:FuncId} {g:Option (Nat×Bool)} {pos:String} {pv:Option Addr} {r:Option Nat} {ts:Array TypeId} {ty:TypeId} {v:Value} {σ:Operand->Value}
theorem zEZ {d:Option Tmp} {args:Array Operand} {vs:Array Value} (A:(callFunc f vs).run P w = .ok (.value v) w) (C:args.toList.map σ=vs.toList) (z:σ (.func f) = .func (.func f) #[] #[]) (E:K v w) :
 Runs P r ⟨d,.call { callee := .value (.func f),args:=args,argTypes:=ts },ty,pos,af,g⟩ σ w K :=
 zIr (by rw [C,Array.toArray_toList];exact A) z E
theorem zNk (x y:Nat) (h:x<18446744073709551616) (l:y<18446744073709551616) :
 ∃ s k:Nat,(∀ w,(callFunc 193 #[.int .u64 (x:Int),.int .u64 (y:Int),.int .u64 0]).run prog w = .ok (.value (.tuple #[.int .u64 (s:Int),.int .u64 (k:Int)])) w)/\s+18446744073709551616*k=x+y+0/\s<18446744073709551616/\k<=1 :=
 zHh x y 0 h l dE
def seg (U:List Nat) (o:Nat):Nat->Nat
 | 0=>0
 | n+1=>seg U o n+18446744073709551616^n*U.getD (o+n) 0
theorem zPD {U V:List Nat} {o:Nat}:∀ {n:Nat},(∀ k,o<=k->k<o+n->U.getD k 0=V.getD k 0)->seg U o n=seg V o n
 | 0,_=>rfl
 | n+1,h=>by rw [seg,seg,zPD (n:=n) fun k h1 h2=>h k h1 oM,h (o+n) oM oM]
theorem zBo (h:k<U.length):(U.set k d).getD k 0=d:=by simp [h]
theorem getD_set_ne (h:k≠j):(U.set k d).getD j 0=U.getD j 0:=by
 simp [fz h]
theorem zNX (h:o+n<U.length):seg (U.set (o+n) d) o (n+1)=seg U o n+18446744073709551616^n*d:=by
 rw [seg,zBo h,zPD (n:=n) (V:=U) fun k h1 l=>getD_set_ne oM]
theorem zMN {U:List Nat} (h:Dig U) (o:Nat):∀ n,seg U o n<18446744073709551616^n
 | 0=>by simp [seg]
 | n+1=>by
  have h1:=zMN h o n;have h2:=h.getD (o+n);rw [seg,dB];have h3:=dy (18446744073709551616^n) (Nat.le_of_lt_succ (show U.getD (o+n) 0<18446744073709551615+1 from h2));generalize 18446744073709551616^n*U.getD (o+n) 0=A at *;generalize 18446744073709551616^n=B at *;omega
theorem zRj {x:Nat} (l:x<18446744073709551616) (z:t<18446744073709551616) (A:carry<18446744073709551616)
 (C:lo+18446744073709551616*hi=x*t) (E:l1+18446744073709551616*c1=lo+carry+0):hi+c1<18446744073709551616:=by
 have h:x*t<=18446744073709551615*18446744073709551615:=fs oM oM;generalize x*t=p at *;omega
theorem take_step {S T x l z u:Nat} (h:S+t*V=T+B*(carry+l))
 (C:lo+18446744073709551616*hi=x*t) (E:l1+18446744073709551616*c1=lo+carry+0) (F:z+(l1+l)=u+18446744073709551616*b1) :
 S+B*z+t*(V+B*x)=T+B*u+B*18446744073709551616*(hi+c1+b1):=by
 have k:z+x*t+(carry+l)=u+18446744073709551616*(hi+c1+b1):=by
  generalize x*t=p at *;omega
 have A:B*(z+x*t+(carry+l))=B*(u+18446744073709551616*(hi+c1+b1)):=by rw [k]
 rw [dV t,<- dt t,dm t B,dt B t,dm t x,dt B 18446744073709551616];simp only [dV] at A h ⊢;omega
theorem take_last {S T l z u:Nat} (h:S+V=T+B*(carry+l)) (A:z+(carry+l)=u+18446744073709551616*b1) :
 S+B*z+V=T+B*u+B*18446744073709551616*b1:=by
 have C:B*(z+(carry+l))=B*(u+18446744073709551616*b1):=by rw [A]
 rw [dt];simp only [dV] at C h ⊢;omega
theorem give_step {S T x l z u:Nat} (h:S+B*(carry+l)=T+t*V)
 (C:lo+18446744073709551616*hi=x*t) (E:l1+18446744073709551616*c1=lo+carry+0) (F:z+18446744073709551616*b1=u+l1+l) :
 S+B*z+B*18446744073709551616*(hi+c1+b1)=T+B*u+t*(V+B*x):=by
 have k:z+18446744073709551616*(hi+c1+b1)=u+x*t+(carry+l):=by
  generalize x*t=p at *;omega
 have A:B*(z+18446744073709551616*(hi+c1+b1))=B*(u+x*t+(carry+l)):=by rw [k]
 rw [dV t,<- dt t,dm t B,dt B t,dm t x,dt B 18446744073709551616];simp only [dV] at A h ⊢;omega
theorem give_last {S T l z u:Nat} (h:S+B*(carry+l)=T+V) (A:z+18446744073709551616*b1=u+carry+l) :
 S+B*z+B*18446744073709551616*b1=T+B*u+V:=by
 have C:B*(z+18446744073709551616*b1)=B*(u+carry+l):=by rw [A]
 rw [dt];simp only [dV] at C h ⊢;omega
theorem take_ok {J cv:Nat} (hU:Blk w b 164 (dv U)) (an:Dig U) (hV:Rd w pv vs) (M:Dig vs) (hn:∀ a,pv=some a->0<vs.length->a.block≠b) (ht:t<18446744073709551616) (aJ:vs.length<J) (ho:o+J<=U.length) (aB:J<4611686018427387904):CallK prog 269 #[.slice (some ⟨b,o,none⟩) J cu,.slice pv vs.length cv,.int .u64 (t:Int)] w (fun v w'=>∃ U' c,v = .bool (((c:Nat):Int) != 0)/\c<=1/\Upd b w w'/\Blk w' b 164 (dv U')/\U'.length=U.length/\Dig U'/\(∀ k,k<o\/o+vs.length<k->U'.getD k 0=U.getD k 0)/\seg U' o (vs.length+1)+t*nat64 vs=seg U o (vs.length+1)+18446744073709551616^(vs.length+1)*c):=by
 refine zDx 67 func269 rfl rfl (cw rfl) (rj (ag (rM 7 ?_)));refine rj (ag (ag (rM 391 ?_)));refine zA (rJ (K1 (zG zj rfl (mv (rM 115079 ?_)))));refine zF (zX (X:=Nat×Nat×Nat) (fun p ρ w'=>Keep ρ [(0,.slice (some ⟨b,o,none⟩) J cu),(1,.slice pv vs.length cv),(2,.int .u64 (t:Nat)),(7,.int .u64 (p.2.1:Nat)),(8,.int .u64 (p.2.2:Nat)),(14,.slice pv vs.length cv),(15,.int .i64 (vs.length:Nat)),(16,.int .i64 (p.1:Nat))]/\p.1<=vs.length/\p.2.1<18446744073709551616/\p.2.2<=1/\Upd b w w'/\∃ A,A.length=U.length/\Dig A/\(∀ k,k<o\/o+p.1<=k->A.getD k 0=U.getD k 0)/\seg A o p.1+t*nat64 (vs.take p.1)=seg U o p.1+18446744073709551616^p.1*(p.2.1+p.2.2)/\Blk w' b 164 (dv A)) (fun p=>vs.length-p.1) (0,0,0) ⟨(kp rfl),di _,dE,dE,Upd.refl b w,U,rfl,an,fun _ _=>rfl,by simp [seg,nat64],hU⟩ ?_);rintro ⟨i,carry,l⟩ ρ1 w1 ⟨hk,ao,E,H,hW,A,hA,F,z,hS,hB⟩;simp only at hk ao E H z hS;have hV1:=hV.upd' hW hn;refine wpe_k _ hk ?_;refine rj (K8 rfl (rM 246151 ?_));refine zA ?_;refine K0 rfl ?_ ?_<;>intro hc
 . have ap:i<vs.length:=t_lt hc;obtain ⟨b2,o2,aK,aq,ar,au⟩:=hV1 i ap;have h:o+((i:Nat):Int).toNat*1=o+i:=by omega
   refine sk (zA (zF (rJ (K1 (zH (b:=b2) (o:=o2) zj (cW (fun p=>Value.slice p vs.length cv) aq) rfl oM oM (K1 (zD zAg rfl ar (by simpa using au) (ag (ag (rM 116615 ?_))))))))));refine rJ (mv (K1 (zJ yB (CallK.of_ret (zMZ (M.getD i) ht _) fun v1 w3 hE hr => ?_) rfl)));obtain ⟨aM,hi,lo,rfl,e1,av⟩:=hr;subst w3;obtain ⟨l1,c1,Z,e2,aw,aN⟩:=zNk lo carry av E;have n1:=zRj (M.getD i) ht E e1 e2;obtain ⟨u1,b1,aa,e3,I,C⟩:=zQO (A.getD (o+i) 0) l1 l (F.getD _) aw H;refine mv (xt rfl (xt rfl (ag (ag (rM 121735 ?_)))));refine rJ (mv (K1 (zEZ (Z _) rfl rfl (mv (xt rfl (xt rfl (ag (ag (rM 129927 ?_)))))))));refine rJ (mv (K1 (zCu (hi+c1) rfl rfl rfl n1 (ag (rM 119687 ?_)))));refine rI (mv (mv (mv (K1 (zH (b:=b) (o:=o) (ix:=((i:Nat):Int)) zj rfl rfl oM oM ?_)))));refine K1 (zD zAg rfl hB (by rw [h];exact zDP A (o+i) oM) ?_);refine mv (mv (K1 (zEZ (aa _) rfl rfl (mv (xt rfl (xt rfl (K1 (zH (b:=b) (o:=o) (ix:=((i:Nat):Int)) zj rfl rfl oM oM ?_))))))));refine K1 (zc zDZ rfl hB rfl (by rw [h,zAO];omega) dE rfl fun w4 hX hN => ?_);refine ag (rl (zN (zK (K5 [0,1,2,7,8,14,15,16] ?_))));refine K6 (K8 rfl (mv (rl (zL ?_))))
   exact ⟨rfl,(i+1,hi+c1,b1),⟨kw,by simp only;omega,n1,C,hW.trans hX,_,by simp [hA],F.set _ I,fun k hk=>by rw [getD_set_ne oM];exact z k oM,by rw [zNX oM,seg,nat64_take_succ',<- z (o+i) (Or.inr (cX _)),dB];exact take_step hS e1 e2 e3,zAq hN h⟩,by simp only;omega⟩
 . have aO:=f_lt hc;obtain rfl:i=vs.length:=by omega
   have h:o+((vs.length:Nat):Int).toNat*1=o+vs.length:=oM
   obtain ⟨u1,b1,ab,e3,I,C⟩:=zQO (A.getD (o+vs.length) 0) carry l (F.getD _) E H;refine zT (zt (zf (zI (zK (rJ (mv (K1 (zG zj rfl (mv (mv (K1 (zG zj rfl (K1 (zH (b:=b) (o:=o) (ix:=((vs.length:Nat):Int)) zj rfl rfl oM oM ?_))))))))))))));refine K1 (zD zAg rfl hB (by rw [h];exact zDP A (o+vs.length) oM) ?_);refine mv (mv (K1 (zEZ (ab _) rfl rfl (mv (xt rfl (xt rfl (K1 (zH (b:=b) (o:=o) (ix:=((vs.length:Nat):Int)) zj rfl rfl oM oM ?_))))))));refine K1 (zc zDZ rfl hB rfl (by rw [h,zAO];omega) dE rfl fun w4 hX hN => ?_);refine ag (rM 115079 ?_);refine rJ (K8 rfl (ag (rM 115143 ?_)));refine zE (zM ?_);exact ⟨rfl,_,zZ rfl rfl,_,b1,rfl,C,hW.trans hX,zAq hN h,by simp [hA],F.set _ I,fun k hk=>by rw [getD_set_ne oM];exact z k oM,by rw [zNX oM,seg,<- z (o+vs.length) (Or.inr (cX _)),dB];rw [ej] at hS;exact take_last hS e3⟩
theorem give_ok {J cv:Nat} (hU:Blk w b 164 (dv U)) (an:Dig U) (hV:Rd w pv vs) (M:Dig vs) (hn:∀ a,pv=some a->0<vs.length->a.block≠b) (ht:t<18446744073709551616) (aJ:vs.length<J) (ho:o+J<=U.length) (aB:J<4611686018427387904):CallK prog 270 #[.slice (some ⟨b,o,none⟩) J cu,.slice pv vs.length cv,.int .u64 (t:Int)] w (fun v w'=>∃ U' c,c<=1/\Upd b w w'/\Blk w' b 164 (dv U')/\U'.length=U.length/\Dig U'/\(∀ k,k<o\/o+vs.length<k->U'.getD k 0=U.getD k 0)/\seg U' o (vs.length+1)+18446744073709551616^(vs.length+1)*c=seg U o (vs.length+1)+t*nat64 vs):=by
 refine zDx 64 func270 rfl rfl (cw rfl) (rj (ag (ag (rM 199 ?_))));refine zA (rJ (K1 (zG zj rfl (mv (rM 57543 ?_)))));refine zF (zX (X:=Nat×Nat×Nat) (fun p ρ w'=>Keep ρ [(0,.slice (some ⟨b,o,none⟩) J cu),(1,.slice pv vs.length cv),(2,.int .u64 (t:Nat)),(6,.int .u64 (p.2.1:Nat)),(7,.int .u64 (p.2.2:Nat)),(13,.slice pv vs.length cv),(14,.int .i64 (vs.length:Nat)),(15,.int .i64 (p.1:Nat))]/\p.1<=vs.length/\p.2.1<18446744073709551616/\p.2.2<=1/\Upd b w w'/\∃ A,A.length=U.length/\Dig A/\(∀ k,k<o\/o+p.1<=k->A.getD k 0=U.getD k 0)/\seg A o p.1+18446744073709551616^p.1*(p.2.1+p.2.2)=seg U o p.1+t*nat64 (vs.take p.1)/\Blk w' b 164 (dv A)) (fun p=>vs.length-p.1) (0,0,0) ⟨(kp rfl),di _,dE,dE,Upd.refl b w,U,rfl,an,fun _ _=>rfl,by simp [seg,nat64],hU⟩ ?_);rintro ⟨i,carry,l⟩ ρ1 w1 ⟨hk,ao,E,H,hW,A,hA,F,z,hS,hB⟩;simp only at hk ao E H z hS;have hV1:=hV.upd' hW hn;refine wpe_k _ hk ?_;refine rj (K8 rfl (rM 123079 ?_));refine zA ?_;refine K0 rfl ?_ ?_<;>intro hc
 . have ap:i<vs.length:=t_lt hc;obtain ⟨b2,o2,aK,aq,ar,au⟩:=hV1 i ap;have h:o+((i:Nat):Int).toNat*1=o+i:=by omega
   refine sk (zA (zF (rJ (K1 (zH (b:=b2) (o:=o2) zj (cW (fun p=>Value.slice p vs.length cv) aq) rfl oM oM (K1 (zD zAg rfl ar (by simpa using au) (ag (ag (rM 58311 ?_))))))))));refine rJ (mv (K1 (zJ yB (CallK.of_ret (zMZ (M.getD i) ht _) fun v1 w3 hE hr => ?_) rfl)));obtain ⟨aM,hi,lo,rfl,e1,av⟩:=hr;subst w3;obtain ⟨l1,c1,Z,e2,aw,aN⟩:=zNk lo carry av E;have n1:=zRj (M.getD i) ht E e1 e2;obtain ⟨u1,b1,aa,e3,I,C⟩:=zHh (A.getD (o+i) 0) l1 l (F.getD _) aw H;refine mv (xt rfl (xt rfl (ag (ag (rM 60871 ?_)))));refine rJ (mv (K1 (zEZ (Z _) rfl rfl (mv (xt rfl (xt rfl (ag (ag (rM 64967 ?_)))))))));refine rJ (mv (K1 (zCu (hi+c1) rfl rfl rfl n1 (ag (rM 59847 ?_)))));refine rI (mv (mv (mv (K1 (zH (b:=b) (o:=o) (ix:=((i:Nat):Int)) zj rfl rfl oM oM ?_)))));refine K1 (zD zAg rfl hB (by rw [h];exact zDP A (o+i) oM) ?_);refine mv (mv (K1 (zEZ (aa _) rfl rfl (mv (xt rfl (xt rfl (K1 (zH (b:=b) (o:=o) (ix:=((i:Nat):Int)) zj rfl rfl oM oM ?_))))))));refine K1 (zc zDZ rfl hB rfl (by rw [h,zAO];omega) dE rfl fun w4 hX hN => ?_);refine ag (rl (zN (zK (K5 [0,1,2,6,7,13,14,15] ?_))));refine K6 (K8 rfl (mv (rl (zL ?_))))
   exact ⟨rfl,(i+1,hi+c1,b1),⟨kw,by simp only;omega,n1,C,hW.trans hX,_,by simp [hA],F.set _ I,fun k hk=>by rw [getD_set_ne oM];exact z k oM,by rw [zNX oM,seg,nat64_take_succ',<- z (o+i) (Or.inr (cX _)),dB];exact give_step hS e1 e2 e3,zAq hN h⟩,by simp only;omega⟩
 . have aO:=f_lt hc;obtain rfl:i=vs.length:=by omega
   have h:o+((vs.length:Nat):Int).toNat*1=o+vs.length:=oM
   obtain ⟨u1,b1,ab,e3,I,C⟩:=zHh (A.getD (o+vs.length) 0) carry l (F.getD _) E H;refine zT (zt (zf (zI (zK (rI (mv (K1 (zG zj rfl (mv (mv (K1 (zG zj rfl (K1 (zH (b:=b) (o:=o) (ix:=((vs.length:Nat):Int)) zj rfl rfl oM oM ?_))))))))))))));refine K1 (zD zAg rfl hB (by rw [h];exact zDP A (o+vs.length) oM) ?_);refine mv (mv (K1 (zEZ (ab _) rfl rfl (mv (xt rfl (xt rfl (K1 (zH (b:=b) (o:=o) (ix:=((vs.length:Nat):Int)) zj rfl rfl oM oM ?_))))))));refine K1 (zc zDZ rfl hB rfl (by rw [h,zAO];omega) dE rfl fun w4 hX hN => ?_);refine rl (zQq ?_);exact ⟨rfl,_,zGl rfl,_,b1,C,hW.trans hX,zAq hN h,by simp [hA],F.set _ I,fun k hk=>by rw [getD_set_ne oM];exact z k oM,by rw [zNX oM,seg,<- z (o+vs.length) (Or.inr (cX _)),dB];rw [ej] at hS;exact give_last hS e3⟩
end Go.Proofs.YtjiendlfobjanaaGreatDoor
namespace Go.Proofs.YtjiendlfobjanaaGreatDoor
open Go Go.RowKit Go.Proofs Tryz
variable {B N0 V X a b c e j k lo n o:Nat} {O U xs:List Nat}
theorem zFs:∀ {O:List Nat} {j:Nat} (d:Nat),j<O.length->nat64 (O.set j d)+18446744073709551616^j*O.getD j 0=nat64 O+18446744073709551616^j*d
 | [],_,_,h=>by simp at h
 | x :: O,0,d,_=>by simp [nat64];omega
 | x :: O,j+1,d,h=>by
  have l:=zFs (O:=O) (j:=j) d (by simpa using h);simp only [io,nat64,List.getD_cons_succ,dB];rw [dm (18446744073709551616^j) 18446744073709551616,dt,dt];have k2:=cW (18446744073709551616 * ·) l
  simp only [dV] at k2;omega
theorem pow64 (s:Nat):18446744073709551616^s=2^(64*s):=by
 rw [show (18446744073709551616:Nat)=2^64 from by decide,<- gL]
theorem zDB (k:Nat):18446744073709551616^(k/64)*2^(k%64)=2^k:=by
 rw [pow64,<- eM,fZ]
theorem zKz (h:e<64):2^(64-e)*2^e=18446744073709551616:=by
 rw [<- eM,show 64-e+e=64 from by omega]
theorem up_digit {x:Nat} (z:x<18446744073709551616) (he:e<64) (A:o<2^e) :
 (o ||| x*2^e%18446744073709551616)=o+x*2^e%18446744073709551616/\o+x*2^e%18446744073709551616<18446744073709551616 /\
 x/2^(64-e)<2^e/\x*2^e%18446744073709551616+18446744073709551616*(x/2^(64-e))=x*2^e:=by
 have l:=zKz he;have hp:0<2^(64-e):=eq dE;have hpe:0<2^e:=eq dE;have hdm:=fZ x (2^(64-e));have hr:=eE x hp;have hxe:x*2^e=18446744073709551616*(x/2^(64-e))+x%2^(64-e)*2^e:=by
  conv=>lhs;rw [<- hdm]
  rw [eF,Nat.mul_right_comm,l]
 have C:x%2^(64-e)*2^e+2^e<=18446744073709551616:=by
  rw [<- l,<- Nat.succ_mul];exact dx _ hr
 have h:x*2^e%18446744073709551616=x%2^(64-e)*2^e:=by
  rw [hxe,Nat.mul_add_mod];exact fL oM
 refine ⟨?_,?_,?_,?_⟩
 . rw [h,Nat.or_comm,zTD A,iH]
 . rw [h];omega
 . rw [gp hp,dm,l];exact z
 . rw [h,hxe];omega
theorem down_digit {x y:Nat} (z:x<18446744073709551616) (he:e<64) :
 (x/2^e ||| y*2^(64-e)%18446744073709551616)=x/2^e+y%2^e*2^(64-e)/\x/2^e+y%2^e*2^(64-e)<18446744073709551616 /\
 (x/2^e+y%2^e*2^(64-e))*2^e+x%2^e=x+18446744073709551616*(y%2^e):=by
 have h:=zKz he;have hpe:0<2^e:=eq dE;have hp:0<2^(64-e):=eq dE;have hq:x/2^e<2^(64-e):=by rw [gp hpe,h];exact z
 have l:y*2^(64-e)%18446744073709551616=y%2^e*2^(64-e):=by
  rw [<- h,dm (2^(64-e)) (2^e),Nat.mul_mod_mul_right]
 have A:y%2^e*2^(64-e)+2^(64-e)<=18446744073709551616:=by
  rw [<- h,<- Nat.succ_mul,dm (2^(64-e)) (2^e)];exact dx _ (eE y hpe)
 refine ⟨?_,oM,?_⟩
 . rw [l,Nat.or_comm,zTD hq,iH]
 . have h1:=fZ x (2^e);rw [eF,dt,h,dm (y%2^e),dm (x/2^e)];omega
theorem zGS (h:j<U.length):nat64 (U.drop j)=U.getD j 0+18446744073709551616*nat64 (U.drop (j+1)):=by
 rw [dZ h,nat64];simp [h]
theorem nat64_drop_div (U:List Nat) (h:Dig U) (s:Nat):nat64 (U.drop s)=nat64 U/18446744073709551616^s:=by
 by_cases z:s<=U.length
 . have h1:=zFt U s;rw [dT z] at h1;have l:=zCw (U.take s) (h.take s);rw [eW,dT z] at l;rw [h1,Nat.add_mul_div_left _ _ (eq dE),fE l,dW]
 . have l:=zCw U h;have h3:18446744073709551616^U.length<=18446744073709551616^s:=dw dE oM;rw [fp oM,fE oM];rfl
theorem zMs {z:Nat} (h:nat64 O*2^e+z%2^e=nat64 xs):nat64 O=nat64 xs/2^e:=by
 have l:0<2^e:=eq dE;rw [<- h,dm,Nat.mul_add_div l,fE (eE _ l),fw]
theorem zJu (U:List Nat) (o:Nat):∀ n,seg U o (n+1)=U.getD o 0+18446744073709551616*seg U (o+1) n
 | 0=>by simp [seg]
 | n+1=>by
  have h:=zJu U o n;rw [seg,h,seg,dB,dV,show o+1+n=o+(n+1) from by omega,dm (18446744073709551616^n) 18446744073709551616,dt];omega
theorem zTM (l:Dig U) (h:seg U o (n+1)<V) (z:V<=18446744073709551616^n):U.getD (o+n) 0=0/\seg U o n=seg U o (n+1):=by
 have h1:U.getD (o+n) 0=0:=by
  rcases fV (U.getD (o+n) 0) with h0 | h0
  . exact h0
  . have:=dy (18446744073709551616^n) h0;rw [seg] at h;omega
 exact ⟨h1,by rw [seg,h1,fW,fw]⟩
theorem guess_le {T h g:Nat} (l:X=lo+B*T) (C:lo<B) (z:h*B<=V) (A:T<(g+1)*h):X<(g+1)*V:=by
 have h1:X<B*(T+1):=by rw [l,dV];omega
 have E:B*(T+1)<=B*((g+1)*h):=dy B A;have h3:(g+1)*(h*B)<=(g+1)*V:=dy _ z;have h4:B*((g+1)*h)=(g+1)*(h*B):=by rw [dm B,dt]
 omega
theorem guess_top (h:2<=n):seg U j (n+1)=seg U j (n-1)+18446744073709551616^(n-1)*(U.getD (j+n) 0*18446744073709551616+U.getD (j+n-1) 0):=by
 obtain ⟨m,rfl⟩:∃ m,n=m+1:=⟨n-1,oM⟩;rw [seg,seg,dD,show j+(m+1)-1=j+m from by omega,dB,dV,dt,dm (U.getD (j+(m+1)) 0)];omega
theorem take_res {S l g:Nat} (h:l+g*V=S+B*c) (C:c<=1) (E:S<B) (A:l<B) (z:S<(g+1)*V) (F:V<=B) :
 (c=0->l+g*V=S/\l<V)/\(c=1->S<g*V/\1<=g):=by
 rw [eF,eG] at z;refine ⟨fun e => ?_,fun e => ?_⟩
 . subst e;rw [fW] at h;omega
 . subst e;rw [fT] at h;have h1:S<g*V:=by omega
   refine ⟨h1,?_⟩;rcases fV g with h0 | h0
   . subst h0;simp at h1
   . exact h0
theorem give_res {S z l g:Nat} (h:z+g*V=S+B*1) (E:l+B*c=z+g*V) (C:c<=1) (F:S<B) (A:l<B):l=S:=by
 rcases Nat.le_one_iff_eq_zero_or_eq_one.1 C with e | e<;>subst e
 . omega
 . omega
theorem div_step {h l z R1 S g A:Nat} (h0:N0=h+18446744073709551616*l) (h1:z*V+R1=l) (E:X=h+18446744073709551616*R1) (F:S+g*V=X) (C:A=g+18446744073709551616*z):A*V+S=N0:=by
 subst C h0 h1;rw [eF,dV,dt];omega
theorem div_end {Q R:Nat} (h:Q*(b*2^k)+R=a*2^k) (l:R<b*2^k) (C:0<b):Q=a/b/\R/2^k=a%b:=by
 have z:0<2^k:=eq dE;have hd:2^k∣R:=by
  have h1:2^k∣Q*(b*2^k)+R:=by rw [h];exact Nat.dvd_mul_left _ _
  exact (Nat.dvd_add_right ⟨Q*b,by rw [<- dt,dm]⟩).1 h1
 obtain ⟨r,rfl⟩:=hd;have h2:Q*b+r=a:=by
  have E:2^k*(Q*b+r)=2^k*a:=by
   rw [dV,dm (2^k) (Q*b),dt,h,dm]
  exact Nat.eq_of_mul_eq_mul_left z E
 have F:r<b:=by
  rw [dm b] at l;exact Nat.lt_of_mul_lt_mul_left l
 rw [ik r z];have A:=Nat.div_mod_unique (b:=b) (a:=a) (c:=r) (d:=Q) C |>.2 ⟨by rw [dm];omega,F⟩;exact ⟨A.1.symm,A.2.symm⟩
end Go.Proofs.YtjiendlfobjanaaGreatDoor
namespace Go.Proofs.YtjiendlfobjanaaGreatDoor
open Go Go.RowKit Go.Proofs Tryz
set_option maxRecDepth 10000
set_option maxHeartbeats 2000000
attribute [local irreducible] Runs WPE CallK Ret
variable {N ca cap e i k n sz':Nat} {O ds xs:List Nat} {pa:Option Addr} {v:Value} {w w':World}
theorem up_step (H:O.length=N) (I:xs.length+k/64+1=N) (h:Dig O) (l:Dig xs) (hi:i<xs.length)
 (E:nat64 O=nat64 (xs.take i)*2^k) (z:O.getD (i+k/64) 0<2^(k%64)) (A:∀ j,i+k/64<j->O.getD j 0=0) :
 ∃ lo hi,O.getD (i+k/64) 0 ||| (xs.getD i 0*2^(k%64)%18446744073709551616)=lo/\lo<18446744073709551616/\xs.getD i 0/2^(64-k%64)=hi/\hi<18446744073709551616 /\
  Dig ((O.set (i+k/64) lo).set (i+k/64+1) hi)/\nat64 ((O.set (i+k/64) lo).set (i+k/64+1) hi)=nat64 (xs.take (i+1))*2^k /\
  ((O.set (i+k/64) lo).set (i+k/64+1) hi).getD (i+1+k/64) 0<2^(k%64)/\(∀ j,i+1+k/64<j->((O.set (i+k/64) lo).set (i+k/64+1) hi).getD j 0=0):=by
 have he:k%64<64:=eE _ dE;have hx:=l.getD i;obtain ⟨d1,d2,d3,d4⟩:=up_digit hx he z;have h2e:2^(k%64)<=18446744073709551616:=by
  rw [show (18446744073709551616:Nat)=2^64 from by decide];exact dw dE oM
 refine ⟨_,_,d1,d2,rfl,oM,(h.set _ d2).set _ oM,?_,?_,?_⟩
 all_goals clear d1
 all_goals generalize xs.getD i 0*2^(k%64)%18446744073709551616=C at *
 all_goals generalize xs.getD i 0/2^(64-k%64)=hi at *
 . have F:=zFs (O:=O) (j:=i+k/64) (O.getD (i+k/64) 0+C) oM;have s2:=zFs (O:=O.set (i+k/64) (O.getD (i+k/64) 0+C)) (j:=i+k/64+1) hi (by simp;omega);rw [getD_set_ne oM,A (i+k/64+1) oM,fW,fw] at s2;rw [s2,nat64_take_succ',eF,<- E];have e:18446744073709551616^i*xs.getD i 0*2^k=18446744073709551616^(i+k/64)*(xs.getD i 0*2^(k%64)):=by
    rw [<- zDB k,eM];simp only [dt,Nat.mul_left_comm,dm]
   rw [e,<- d4,dV,dB,dt (18446744073709551616^(i+k/64))];rw [dV] at F;omega
 . rw [show i+1+k/64=i+k/64+1 from by omega,zBo (by simp;omega)];exact d3
 . intro j J;rw [getD_set_ne oM,getD_set_ne oM];exact A j oM
theorem down_step (A:O.length=xs.length) (h:Dig O) (l:Dig xs) (he:e<64) (hi:i<xs.length)
 (C:nat64 (O.take i)*2^e+xs.getD 0 0%2^e=nat64 (xs.take i)+18446744073709551616^i*(xs.getD i 0%2^e)) :
 ∃ d,(xs.getD i 0/2^e ||| xs.getD (i+1) 0*2^(64-e)%18446744073709551616)=d/\d<18446744073709551616/\xs.getD i 0/2^e<18446744073709551616 /\
  Dig (O.set i d)/\nat64 ((O.set i d).take (i+1))*2^e+xs.getD 0 0%2^e=nat64 (xs.take (i+1))+18446744073709551616^(i+1)*(xs.getD (i+1) 0%2^e):=by
 have z:=l.getD i;obtain ⟨d1,d2,d3⟩:=down_digit (y:=xs.getD (i+1) 0) z he;refine ⟨_,rfl,by rw [d1];exact d2,eN (fg _ _) z,h.set _ (by rw [d1];exact d2),?_⟩;rw [d1];generalize xs.getD i 0/2^e+xs.getD (i+1) 0%2^e*2^(64-e)=D at *;rw [nat64_take_succ',zBo oM,gQ oM,nat64_take_succ',dB];have k2:18446744073709551616^i*(D*2^e+xs.getD i 0%2^e)=18446744073709551616^i*(xs.getD i 0+18446744073709551616*(xs.getD (i+1) 0%2^e)):=by rw [d3]
 rw [eF,dt (18446744073709551616^i),dt (18446744073709551616^i)];simp only [dV] at k2 ⊢;omega
def UpR (sz:Nat) (xs:List Nat) (k:Nat) (v:Value) (w:World):Prop:=∃ h ds O,v = .slice (some ⟨h,0,none⟩) ds.length (xs.length+k/64+1)/\ds.length<=xs.length+k/64+1/\Rd w (some ⟨h,0,none⟩) ds/\Norm ds/\nat64 ds=nat64 xs*2^k/\sz<=h/\Blk w h 164 (dv O)/\O.length=xs.length+k/64+1
theorem UpR.ext {sz:Nat} (h:UpR sz xs k v w) (l:Ext w w'):UpR sz xs k v w':=by
 obtain ⟨z,ds,O,h1,A,C,E,F,H,I,J⟩:=h;exact ⟨z,ds,O,h1,A,C.ext l,E,F,H,I.ext l,J⟩
theorem UpR.sz {sz:Nat} (h:UpR sz xs k v w) (I:sz'<=sz):UpR sz' xs k v w:=by
 obtain ⟨l,ds,O,h1,z,A,C,E,J,F,H⟩:=h;exact ⟨l,ds,O,h1,z,A,C,E,oM,F,H⟩
theorem cut_shape {p:Option Addr} (C:ds.length=n) (l:n<=cap) (h:Rd w p ds) (z:Dig ds) (A:n<4611686018427387904) :
 Ret prog 194 #[.slice p n cap] w (fun v w'=>∃ es,v = .slice p es.length cap/\es.length<=n/\Rd w' p es/\Norm es/\nat64 es=nat64 ds):=by
 subst C;exact (zOB l h z A).mono fun v w' E ⟨k,F,H,C,he⟩=>⟨ds.take k,by rw [H];simp [dT F],by simp;omega,(h.ext E).take k,C,he⟩
theorem up_ok (ha:Rd w pa xs) (hx:Dig xs) (hl:xs.length<=4398046511104) (hk:k<=70368744177664):Ret prog 267 #[.slice pa xs.length ca,.int .i64 (k:Int)] w (fun v w'=>UpR w.heap.size xs k v w'):=by
 refine J0 50 func267 rfl (rj (ag (rM 3 ?_)));refine rJ (K1 (zG zj rfl (mv (K1 (zAn (b:=64) (k/64) rfl rfl dE rfl oM (K1 (zg (xs.length+k/64) rfl rfl rfl oM (K1 (zg (b:=1) (xs.length+k/64+1) rfl rfl rfl oM ?_)))))))));refine K1 (zAK zEn zHZ rfl rfl rfl oM oM oM fun z w1 aa h l hs => ?_);have A:w.heap.size<=z:=dS aa.symm;replace E0:=E0.trans h;rw [show ((xs.length+k/64+1:Nat):Int).toNat=xs.length+k/64+1 from by omega,show (Value.int IntKind.u64 0).cells.toList=[Value.int IntKind.u64 0] from rfl,zAp] at l;refine ag (rM 35 ?_);refine zA (rJ (K1 (zG zj rfl (mv (rM 229411 ?_)))));refine zF ?_
 refine zX (X:=Nat) (fun i ρ w'=>Keep ρ [(0,.slice pa xs.length ca),(1,.int .i64 (k:Nat)),(5,.slice (some ⟨z,0,none⟩) (xs.length+k/64+1) (xs.length+k/64+1)),(15,.slice pa xs.length ca),(16,.int .i64 (xs.length:Nat)),(17,.int .i64 (i:Nat))]/\i<=xs.length/\Ext w w'/\∃ O,O.length=xs.length+k/64+1/\Dig O/\nat64 O=nat64 (xs.take i)*2^k/\O.getD (i+k/64) 0<2^(k%64)/\(∀ j,i+k/64<j->O.getD j 0=0)/\Blk w' z 164 (dv O)) (fun i=>xs.length-i) 0 ⟨(kp rfl),di _,E0,List.replicate (xs.length+k/64+1) 0,sM,zCK _,by rw [zFu];simp [nat64],by rw [zFS];exact eq dE,fun _ _=>zFS _ _,l⟩ ?_;rintro i ρ1 w1 ⟨hk,aE,E0,O,Z,C,E,ab,ad,l⟩;refine wpe_k _ hk ?_;refine rj (K8 rfl (rM 491555 ?_));refine zA ?_;refine K0 rfl ?_ ?_<;>intro hc
 . have J:i<xs.length:=t_lt hc;obtain ⟨b2,o2,aF,ae,ah,ai⟩:=(ha.ext E0) i J;obtain ⟨lo,hi,e1,e2,e3,e4,e5,e6,e7,e8⟩:=up_step Z rfl C hx J E ab ad;have F:(0:Nat)+(((i+k/64:Nat):Nat):Int).toNat*1=i+k/64:=by omega
   have M:k%64<64:=eE _ dE;refine sk (zA (zF (rJ (K1 (zH (b:=b2) (o:=o2) zj (cW (fun p=>Value.slice p xs.length ca) ae) rfl oM oM (K1 (zD zAg rfl ah (by simpa using ai) (ag (ag (rM 229603 ?_))))))))));refine zA (zBx 13 mixed kR fun K hK=>qM (qM (qM (qS (fun h=>zAn (b:=64) (k/64) rfl rfl dE rfl oM eQ) (qS (fun h=>zg (i+k/64) rfl rfl rfl oM eQ) (qS (fun h=>zH (b:=z) (o:=0) (ix:=((i+k/64:Nat):Int)) zj rfl rfl oM oM eQ) ?_))))));refine qS (fun h=>zD zAg rfl (l.ext h) (by rw [F];exact zDP O (i+k/64) oM) eQ) ?_;refine qM (qM (qS (fun h=>zAE (b:=64) (k%64) rfl rfl dE rfl eQ) (qS (fun h=>zGX (xs.getD i 0*2^(k%64)%18446744073709551616) rfl rfl (eU M) rfl eQ) (qS (fun h=>zNW (lo) rfl rfl (C.getD _) (eE _ dE) e1 eQ) (qS (fun h=>zH (b:=z) (o:=0) (ix:=((i+k/64:Nat):Int)) zj rfl rfl oM oM eQ) (hK _ fun wx h => ?_))))));have hBx:=l.ext h;refine K1 (Runs.mono (K:=fun _ w3=>Upd z wx w3/\Blk w3 z _ (dv (O.set (i+k/64) lo))) (zc zDZ rfl hBx rfl (by rw [F,zAO];omega) dE rfl fun w3 I H=>⟨I,zAq H F⟩) ?_);rintro _ wq ⟨I,H⟩
   have hS:=(h.toS [z]).trans (I.toS (.head _));refine zAh ?_;replace E0:=E0.updS hS A;clear l;have l:=H;refine zK (K5 [0,1,5,6,7,15,16,17] ?_);refine rI (mv (mv (K1 (zAn (b:=64) (k/64) rfl rfl dE rfl oM (K1 (zg (i+k/64) rfl rfl rfl oM (K1 (zg (b:=1) (i+k/64+1) rfl rfl rfl oM (mv (mv (K1 (zAE (b:=64) (k%64) rfl rfl dE rfl (K1 (zAL (a:=64) (64-k%64) rfl rfl oM dE (K1 (zFe (hi) rfl rfl oM e3 (K1 (zH (b:=z) (o:=0) (ix:=((i+k/64+1:Nat):Int)) zj rfl rfl oM oM ?_))))))))))))))))));have hix2:(0:Nat)+(((i+k/64+1:Nat):Nat):Int).toNat*1=i+k/64+1:=oM
   refine K1 (zc zDZ rfl l rfl (by rw [hix2,zAO];simp;omega) dE rfl fun w4 I H => ?_);rw [hix2] at H;replace E0:=E0.upd I A;refine rl (zN (zK (K5 [0,1,5,15,16,17] ?_)));exact K6 (K8 rfl (mv (rl (zL (⟨rfl,i+1,⟨kw,oM,E0,_,by simp [Z],e5,e6,e7,e8,zAq H rfl⟩,oM⟩)))))
 . have aG:=f_lt hc;obtain rfl:i=xs.length:=by omega
   rw [ej] at E;refine zT (zt (zf (zI (zK (rJ (K1 (j1 E0 l.ext yB (cut_shape Z (cX _) (Rd.of_blk l) C oM) fun ao w1 E0 l hr => ?_)))))));obtain ⟨ds,rfl,aj,ak,al,am⟩:=hr;refine ag (rM 229427 ?_);exact zE (en rfl E0 ⟨z,ds,O,rfl,aj,ak,al,by rw [am,E],A,l,Z⟩)
theorem zEg (h:xs.length<=i):xs.getD i 0=0:=by
 simp [ez h]
theorem IsW.nil (h:n=0):IsW w (.slice none 0 0) n:=⟨none,[],0,rfl,cX _,fun i hi=>by simp at hi,⟨fun d l=>by simp at l,sM⟩,by rw [h];rfl⟩
theorem zKN (l:Dig ds) (h:ds.length<=k/64):nat64 ds/2^k=0:=by
 have h1:=zCw ds l;have h2:=zDB k;have h3:18446744073709551616^ds.length<=18446744073709551616^(k/64):=dw dE h;have h4:1<=2^(k%64):=eq dE;have h5:=dy (18446744073709551616^(k/64)) h4;rw [h2] at h5;exact fE oM
theorem zMt:n/18446744073709551616^(k/64)/2^(k%64)=n/2^k:=by
 rw [fX,zDB]
theorem zPg {s:Nat} (z:Rd w pa ds) (h:Norm ds) (E:ds.length<=ca) (F:s<ds.length) :
 ∃ xs l cb,ds.length-s=xs.length/\Value.slice (if ca=s then pa else pa.map (fun a=>a.add (s*1))) (ds.length-s) (ca-s)=Value.slice l xs.length cb/\Rd w l xs/\Dig xs/\nat64 xs=nat64 ds/18446744073709551616^s:=by
 refine ⟨ds.drop s,if ca=s then pa else pa.map (fun a=>a.add (s*1)),ca-s,sM,sM,?_,h.1.drop s,nat64_drop_div ds h.1 s⟩;intro i hi;rw [gH] at hi;obtain ⟨b,o,cs,h1,A,C⟩:=z (s+i) oM;refine ⟨b,o+s,cs,?_,A,?_⟩
 . rw [ct oM,h1];simp [zAm]
 . rw [show o+s+i=o+(s+i) from by omega,C];simp
theorem down_ok {x:Value} (al:IsW w x n) (hl:n.log2<17592186044416) (hk:k<=70368744177664):Ret prog 271 #[x,.int .i64 (k:Int)] w (fun v w'=>IsW w' v (n/2^k)):=by
 obtain ⟨pa,ds,ca,rfl,am,ha,hx,F⟩:=al;subst F;have hlx:=hx.len_le hl;refine J0 57 func271 rfl (rj (ag (rM 3 ?_)));refine zA (rJ (K1 (zAn (b:=64) (k/64) rfl rfl dE rfl oM (mv (K1 (zG zj rfl (K8 rfl (rM 4099 ?_))))))));refine K0 rfl ?_ ?_<;>intro C
 . have M:ds.length<=k/64:=by have:=dh C;omega
   refine rj (ag (rM 19 ?_));exact zE (zU (en rfl E0 (IsW.nil (zKN hx.1 M))))
 . have an:k/64<ds.length:=by have:=de C;omega
   obtain ⟨xs,pb,cb,aM,ao,Z,ap,F⟩:=zPg ha hx am an;refine sk (rJ (mv (K1 (zAn (b:=64) (k/64) rfl rfl dE rfl oM (K1 (zEv zj rfl rfl oM oM ?_))))));rw [show ((k/64:Nat):Int).toNat=k/64 from by omega,ao];refine ag (rM 3 ?_);refine rJ (K1 (zG zj rfl ?_));refine K1 (zAK zEn zHZ rfl rfl rfl oM oM oM fun A w1 hb1 hE h hs => ?_);have hgb:w.heap.size<=A:=dS hb1.symm;replace E0:=E0.trans hE;rw [show ((xs.length:Nat):Int).toNat=xs.length from by omega,show (Value.int IntKind.u64 0).cells.toList=[Value.int IntKind.u64 0] from rfl,zAp] at h;refine ag (rM 35 ?_);refine zA (rJ (K1 (zG zj rfl (mv (rM 7340067 ?_)))));refine zF (zX (X:=Nat) (fun i ρ w'=>Keep ρ [(0,.slice pb xs.length cb),(1,.int .i64 (k:Nat)),(5,.slice (some ⟨A,0,none⟩) xs.length xs.length),(20,.slice pb xs.length cb),(21,.int .i64 (xs.length:Nat)),(22,.int .i64 (i:Nat))]/\i<=xs.length/\Ext w w'/\∃ O,O.length=xs.length/\Dig O/\nat64 (O.take i)*2^(k%64)+xs.getD 0 0%2^(k%64)=nat64 (xs.take i)+18446744073709551616^i*(xs.getD i 0%2^(k%64))/\Blk w' A 164 (dv O)) (fun i=>xs.length-i) 0 ⟨(kp rfl),di _,E0,List.replicate xs.length 0,sM,zCK _,by simp [nat64],h⟩ ?_);rintro i ρ1 w1 ⟨hk,aN,E0,O,hO,aa,H,h⟩
   refine wpe_k _ hk ?_;refine rj (K8 rfl (rM 15728675 ?_));refine zA ?_;refine K0 rfl ?_ ?_<;>intro C
   . have E:i<xs.length:=t_lt C;obtain ⟨b2,o2,aO,aq,ar,au⟩:=(Z.ext E0) i E;have he64:k%64<64:=eE _ dE;obtain ⟨d,e1,e2,e3,e4,e5⟩:=down_step hO aa ap he64 E H;have l:(0:Nat)+((i:Nat):Int).toNat*1=i:=by omega
     refine sk (zA (zF (rJ (K1 (zH (b:=b2) (o:=o2) zj (cW (fun p=>Value.slice p xs.length cb) aq) rfl oM oM (K1 (zD zAg rfl ar (by simpa using au) (ag (ag (rM 7340259 ?_))))))))));refine rJ (mv (mv (mv (K1 (zAE (b:=64) (k%64) rfl rfl dE rfl (K1 (zFe (xs.getD i 0/2^(k%64)) rfl rfl (eU he64) rfl (K1 (zH (b:=A) (o:=0) (ix:=((i:Nat):Int)) zj rfl rfl oM oM ?_)))))))));refine K1 (zc zDZ rfl h rfl (by rw [l,zAO];omega) dE rfl fun w4 J I => ?_);rw [l] at I;replace E0:=E0.upd J hgb;clear h;have h:=zAq I rfl;refine rM 7340131 ?_;refine rJ (K1 (zg (b:=1) (i+1) rfl rfl rfl oM (mv (K1 (zG zj rfl (K8 rfl (rM 274885247075 ?_)))))));refine K0 rfl ?_ ?_<;>intro C
     . have ab:i+1<xs.length:=t_lt C;obtain ⟨b3,o3,aP,ad,av,aw⟩:=(Z.ext E0) (i+1) ab;have hix2:((i+1:Nat):Int).toNat*1=i+1:=by omega
       refine zBx 15 mixed kR fun K hK=>qM (qM (qS (fun hE=>zH (b:=A) (o:=0) (ix:=((i:Nat):Int)) zj rfl rfl oM oM eQ) ?_));refine qS (fun hE=>zD zAg rfl (h.ext hE) (by rw [l];exact (zDP _ i (by simp;omega)).trans (cW (fun z:Nat=>some (Value.int .u64 (z:Int))) (zBo oM))) eQ) ?_;refine qM (qM (qS (fun hE=>zg (b:=1) (i+1) rfl rfl rfl oM eQ) (qS (fun hE=>zH (b:=b3) (o:=o3) (ix:=((i+1:Nat):Int)) zj (cW (fun p=>Value.slice p xs.length cb) ad) rfl oM oM eQ) ?_)));refine qS (fun hE=>zD zAg rfl (av.ext hE) (by rw [hix2];exact aw) eQ) ?_;refine qM (qS (fun hE=>zAE (b:=64) (k%64) rfl rfl dE rfl eQ) (qS (fun hE=>zAL (a:=64) (64-k%64) rfl rfl oM dE eQ) (qS (fun hE=>zGX (xs.getD (i+1) 0*2^(64-k%64)%18446744073709551616) rfl rfl oM rfl eQ) (qS (fun hE=>zNW (d) rfl rfl e3 (eE _ dE) e1 eQ) (qS (fun hE=>zH (b:=A) (o:=0) (ix:=((i:Nat):Int)) zj rfl rfl oM oM eQ) (hK _ fun wx hE => ?_))))));have hBx:=h.ext hE
       refine K1 (Runs.mono (K:=fun _ w3=>Upd A wx w3/\Blk w3 A _ (dv ((O.set i (xs.getD i 0/2^(k%64))).set i d))) (zc zDZ rfl hBx rfl (by rw [l,zAO];simp;omega) dE rfl fun w3 J I=>⟨J,zAq I l⟩) ?_);rintro _ wq ⟨J,I⟩;have hS:=(hE.toS [A]).trans (J.toS (.head _));refine zAh ?_;replace E0:=E0.updS hS hgb;clear h;have h:=I;rw [List.set_set] at h;refine zN (zK (K5 [0,1,5,20,21,22] ?_));exact K6 (K8 rfl (mv (rl (zL (⟨rfl,i+1,⟨kw,oM,E0,_,by simp [hO],e4,e5,h⟩,oM⟩)))))
     . have ae:=f_lt C;rw [zEg ae,gU,Nat.zero_mod,Nat.or_zero] at e1;subst e1;exact zw (zN (zK (K6 (K8 rfl (mv (rl (zL (⟨rfl,i+1,⟨kw,oM,E0,_,by simp [hO],e4,e5,h⟩,oM⟩))))))))
   . have M:=f_lt C;obtain rfl:i=xs.length:=by omega
     rw [ej,zEg (cX _),Nat.zero_mod,fW,fw,dF oM] at H;refine zT (zt (zf (zI (zK (rJ (K1 (j0 E0 yB (zFl hO (cX _) (Rd.of_blk h) aa oM) fun ax w1 E0 hr => ?_)))))));refine ag (rM 7340083 ?_);refine zE (zM ?_);rw [zMs H,F,zMt] at hr;exact ⟨rfl,_,zZ rfl rfl,E0,hr⟩
variable {K:Value->World->Prop} {a b c hi len lo o:Nat} {P:Program} {T:TypeId} {U vs ys:List Nat} {a':Value} {cs:List Value} {f:FuncId}
theorem CallK.eq1 {a:Value} (h:a=a') (l:CallK P f #[a'] w K):CallK P f #[a] w K:=by rw [h];exact l
theorem CallK.eq2 {a b l:Value} (h:a=a') (z:b=l) (A:CallK P f #[a',l] w K):CallK P f #[a,b] w K:=by rw [h,z];exact A
theorem CallK.eq3 {a b l c z:Value} (h:a=a') (A:b=l) (C:c=z) (E:CallK P f #[a',l,z] w K):CallK P f #[a,b,c] w K:=by rw [h,A,C];exact E
theorem Rd.cells {p:Option Addr} (h:Rd w p ds):Cells w p 164 (dv ds):=by
 by_cases h0:ds=[]
 . exact .inl (by rw [h0];rfl)
 . have A:0<ds.length:=eC.2 h0;obtain ⟨b,o,cs,h1,l,H⟩:=h 0 A;refine .inr ⟨b,o,cs,h1,l,?_⟩;apply gw;intro i;rw [fk,zAO];by_cases hi:i<ds.length
   . rw [cD hi,fN];obtain ⟨I,J,F,z,C,E⟩:=h i hi;rw [h1] at z;cases z;obtain ⟨_,rfl⟩:=l.inj C;rw [E,zDP ds i hi]
   . rw [ct hi,ez (by rw [zAO];omega)]
theorem Cells.blk (h:Blk w b T cs):Cells w (some ⟨b,0,none⟩) T cs := .inr ⟨b,0,cs,rfl,h,sM⟩
theorem zOI (a b:List Nat):dv (a++b)=dv a++dv b:=by simp [dv]
theorem dv_rep (n:Nat):List.replicate n (Value.int .u64 0)=dv (List.replicate n 0):=by simp [dv]
theorem Norm.lenlo (h:Norm ds) (h1:18446744073709551616^n<=nat64 ds):n<ds.length:=by
 have l:=zCw ds h.1;exact (gr (by decide:1<18446744073709551616)).1 (by omega:18446744073709551616^n<18446744073709551616^ds.length)
theorem Norm.lenhi (h:Norm ds) (h1:nat64 ds<18446744073709551616^n):ds.length<=n:=by
 by_cases h0:ds=[]
 . simp [h0]
 . have l:=h.lo h0;have:=(gr (by decide:1<18446744073709551616)).1 (by omega:18446744073709551616^(ds.length-1)<18446744073709551616^n);omega
def AppR (sz:Nat) (xs:List Nat) (k:Nat) (len:Nat) (v:Value) (w:World):Prop:=∃ h es c,v = .slice (some ⟨h,0,none⟩) (len+(if len=0 then es.length+2 else 0)) c/\xs.length+2<=c/\es.length+2<=c/\Norm es/\xs.length<=es.length/\nat64 es=nat64 xs*2^k/\sz<=h/\Blk w h 164 (dv (es++[0,0]++List.replicate (c-(es.length+2)) 0))
theorem AppR.ext {sz:Nat} (h:AppR sz xs k len v w) (l:Ext w w'):AppR sz xs k len v w':=by
 obtain ⟨z,es,c,h1,A,C,E,F,H,I,J⟩:=h;exact ⟨z,es,c,h1,A,C,E,F,H,I,J.ext l⟩
def TwoR (v:Value) (w:World):Prop:=∃ b,v = .slice (some ⟨b,0,none⟩) 2 2/\Blk w b 164 (dv [0,0])
theorem TwoR.ext (h:TwoR v w) (l:Ext w w'):TwoR v w':=by
 obtain ⟨b,h1,z⟩:=h;exact ⟨b,h1,z.ext l⟩
def GuR (hi lo y:Nat) (v:Value):Prop:=∃ q r:Nat,v = .tuple #[.int .u64 (q:Int),.int .u64 (r:Int)]/\q*y+r=hi*18446744073709551616+lo/\r<y/\q<18446744073709551616
def GuQ (hi lo y:Nat) (v:Value):Prop:=∃ q:Nat,v = .int .u64 (q:Int)/\hi*18446744073709551616+lo<(q+1)*y/\q<18446744073709551616
theorem GuR.q {y:Nat} (h:GuR hi lo y v):∃ a b,v = .tuple #[a,b]/\GuQ hi lo y a:=by
 obtain ⟨q,r,h1,l,A,z⟩:=h;exact ⟨_,_,h1,q,rfl,by rw [eF,eG,<- l];omega,z⟩
theorem zKo (es:List Nat) (n:Nat):nat64 (es++[0,0]++List.replicate n 0)=nat64 es:=by
 rw [zBi,zBi,zFu];simp [nat64]
theorem Dig.app {a b:List Nat} (l:Dig a) (z:Dig b):Dig (a++b):=fun d A=>by
 rcases gD.1 A with h | h
 . exact l d h
 . exact z d h
theorem zNY (U:List Nat):∀ (n o:Nat),nat64 (U.drop o)=seg U o n+18446744073709551616^n*nat64 (U.drop (o+n))
 | 0,o=>by simp [seg]
 | n+1,o=>by
  rw [zJu,dB,dm (18446744073709551616^n),dt,show o+(n+1)=o+1+n from by omega];by_cases ho:o<U.length
  . rw [zGS ho,zNY U n (o+1),dV];omega
  . have h:U.drop o=[]:=fp oM;have e2:=zNY U n (o+1);rw [fp (by omega:U.length<=o+1)] at e2;rw [h,zEg oM];simp only [nat64] at e2 ⊢;omega
theorem zTL (h:nat64 (U.drop o)<18446744073709551616^n):seg U o n=nat64 (U.drop o):=by
 have h1:=zNY U n o;have h2:nat64 (U.drop (o+n))=0:=by
  rcases fV (nat64 (U.drop (o+n))) with h0 | h0
  . exact h0
  . have:=dy (18446744073709551616^n) h0;omega
 rw [h1,h2,fW,fw]
theorem zNZ (U:List Nat):∀ n,seg U 0 n=nat64 (U.take n)
 | 0=>by simp [seg,nat64]
 | n+1=>by rw [seg,zNZ U n,nat64_take_succ',dW]
theorem log2_dig {L:Nat} (h:Dig ds) (l:ds.length<=N) (z:64*N<L):(nat64 ds).log2<L:=by
 by_cases h0:nat64 ds=0
 . rw [h0];show 0<L;omega
 . rw [gd h0];have h1:=zCw ds h;rw [pow64] at h1;exact fm h1 (dw dE oM)
theorem div_init {es:List Nat} {s:Nat} (J:Norm xs) (E:Norm ys) (hn:2<=ys.length) (ai:nat64 ys<=nat64 xs) (hs:s<64)
 (h1:ys.getD (ys.length-1) 0*2^s<18446744073709551616) (M:Norm vs) (l:nat64 vs=nat64 ys*2^s) (he:nat64 es=nat64 xs*2^s) :
 vs.length=ys.length/\ys.length<=xs.length/\nat64 vs<18446744073709551616^ys.length/\nat64 ((es++[0,0]++List.replicate c 0).drop (xs.length-ys.length+1))<nat64 vs/\nat64 vs≠0:=by
 have H:ys≠[]:=by rintro rfl;simp at hn
 have A:=E.lo H;have I:ys.length<=xs.length:=by
  rcases dR xs.length ys.length with h | h
  . have:=Norm.len_lt J.1 E h;omega
  . exact h
 have F:1<=2^s:=eq dE;have z:nat64 ys*2^s<18446744073709551616^ys.length:=by
  obtain ⟨m,Z⟩:∃ m,ys.length=m+1:=⟨ys.length-1,oM⟩;have t1:ys.take (m+1)=ys:=dF oM;have t2:=nat64_take_succ' ys m;rw [t1] at t2;have t3:=zCw (ys.take m) (E.1.take m);rw [eW,dT oM] at t3;rw [Z,dD] at h1;rw [t2,Z,dB,eF,dt];have d1:ys.getD m 0*2^s+2^s<=18446744073709551616:=by
   rw [<- Nat.succ_mul];have e:(18446744073709551616:Nat)=2^(64-s)*2^s:=(zKz hs).symm;rw [e] at h1 ⊢;exact dx _ (Nat.lt_of_mul_lt_mul_right h1)
  have d2:=dy (18446744073709551616^m) d1;have d3:=gg t3 (show 0<2^s from F);rw [dV] at d2;omega
 have C:18446744073709551616^(ys.length-1)<=nat64 vs:=by
  rw [l];exact dz A (gh _ F)
 have l1:=M.lenlo C;have l2:=M.lenhi (n:=ys.length) (by rw [l];exact z);refine ⟨oM,I,by rw [l];exact z,?_,?_⟩
 . have hd:Dig (es++[0,0]++List.replicate c 0)\/True := .inr trivial;have t1:=zFt (es++[0,0]++List.replicate c 0) (xs.length-ys.length+1);rw [zKo,he] at t1;have hxlt:=zCw xs J.1;by_cases hlen:xs.length-ys.length+1<=(es++[0,0]++List.replicate c 0).length
   . rw [dT hlen] at t1;have k1:nat64 xs<18446744073709551616^(xs.length-ys.length+1)*nat64 ys:=by
      have k2:=dy (18446744073709551616^(xs.length-ys.length+1)) A;rw [<- eM,show xs.length-ys.length+1+(ys.length-1)=xs.length from by omega] at k2;omega
     have k3:nat64 xs*2^s<18446744073709551616^(xs.length-ys.length+1)*nat64 vs:=by
      rw [l,<- dt];exact gg k1 F
     have k4:18446744073709551616^(xs.length-ys.length+1)*nat64 ((es++[0,0]++List.replicate c 0).drop (xs.length-ys.length+1))<18446744073709551616^(xs.length-ys.length+1)*nat64 vs:=oM
     exact Nat.lt_of_mul_lt_mul_left k4
   . rw [fp oM];have:0<18446744073709551616^(ys.length-1):=eq dE;show 0<_;omega
 . have:0<18446744073709551616^(ys.length-1):=eq dE;omega
theorem zSP {x y:Value} (aw:IsW w x a) (ba:IsW w y b) (aK:Fit a) (bb:Fit b) (bc:b≠0):Ret prog 191 #[x,y] w (fun v w'=>∃ q r,v = .tuple #[q,r]/\IsW w' q (a/b)/\IsW w' r (a%b)):=by
 have br:=aw;have hyw0:=ba;obtain ⟨pa,xs,ca,rfl,cE,ha,hx,bX⟩:=br;obtain ⟨pb,ys,cb,rfl,cF,hb,hy,bY⟩:=hyw0;subst bX bY;have hlx:=hx.fit aK;have hly:=hy.fit bb;refine J0 125 func191 rfl (rj (ag (ag (rM 19 ?_))));refine rJ (K1 (zG zj rfl (ag (rM 83 ?_))));refine zA (rJ (mv (K1 (j0 E0 yB (zSE (aw.ext E0) (ba.ext E0) aK bb) fun v2_2 w1 E0 F => ?_))));obtain ⟨cV,rfl,bd⟩:=F;refine K8 rfl (rM 524371 ?_);refine K0 rfl ?_ ?_<;>intro hc
 . have be:nat64 xs<nat64 ys:=by have:=dh hc;exact bd.1.1 this
   refine rJ (ag (ag (rM 112 ?_)));refine zE (zU (zM ?_));exact ⟨rfl,_,zv rfl rfl rfl,E0,_,_,rfl,IsW.nil (fE be),by rw [fL be];exact aw.ext E0⟩
 . have bf:nat64 ys<=nat64 xs:=by
    rcases dR (nat64 xs) (nat64 ys) with h | h
    . exact absurd (bd.1.2 h) (de hc)
    . exact h
   refine sk (zA (rJ (K8 rfl (rM 4194387 ?_))));refine K0 rfl ?_ ?_<;>intro hc
   . have bg:ys.length=1:=t_beq (b:=1) hc;obtain ⟨y0,rfl⟩:∃ y0,ys=[y0]:=gk.1 bg;obtain ⟨b2,o2,bZ,aM,aN,aO⟩:=(hb.ext E0) 0 sM;have hy0:0<y0:=by rw [zFW] at bc;omega
     have bh:y0<18446744073709551616:=hy.1 y0 sM;refine rJ (mv (K1 (zH (ix:=0) (b:=b2) (o:=o2) zj (cW (fun p=>Value.slice p 1 cb) aM) rfl oM dE (K1 (zD zAg rfl aN (by simpa using aO) (K1 (j0 E0 yB (zQV (aw.ext E0) aK hy0 bh) fun v5_4 w2 E0 F => ?_)))))));obtain ⟨q1,rfl,aP⟩:=F;refine mv (xt rfl (xt rfl (ag (ag (rM 464 ?_)))));refine rJ (mv (K1 (j1 E0 aP.ext yB (zGb (is (eE _ hy0) bh)) fun v6_2 w3 E0 aP F => ?_)));refine ag (ag (rM 112 ?_));refine zE (zU (zM ?_));exact ⟨rfl,_,zv rfl rfl rfl,E0,_,_,rfl,by rw [zFW];exact aP,by rw [zFW];exact F⟩
   . have bg:ys.length≠1:=f_beq (b:=1) hc;have hn2:2<=ys.length:=by
      have:ys.length≠0:=fun e=>bc (by rw [ef e];rfl);omega
     obtain ⟨b2,o2,bZ,aM,aN,aO⟩:=(hb.ext E0) (ys.length-1) oM;have htop:ys.getD (ys.length-1) 0≠0:=fun e=>hy.2 (by
      have h0:ys.length-1<ys.length:=oM
      rw [cC,cY h0] at e;rw [List.getLast?_eq_getElem?,cY h0];exact cW some e)
     refine sk (rJ (mv (K1 (zAL (b:=1) (ys.length-1) rfl rfl oM oM (K1 (zH (ix:=((ys.length-1:Nat):Int)) (b:=b2) (o:=o2) zj (cW (fun p=>Value.slice p ys.length cb) aM) rfl oM oM ?_))))));refine K1 (zD zAg rfl aN (by rw [show o2+((ys.length-1:Nat):Int).toNat*1=o2+(ys.length-1) from by omega];exact aO) ?_);refine K1 (j0 E0 yB (LZ_ok htop (hy.1.getD _) _) fun v7_5 w2 E0 F => ?_);obtain ⟨cG,s,rfl,bs,b0,cH⟩:=F;refine ag (rM 595 ?_);refine zA (zAe [[2],[18],[3,1],[0],[18],[3,1],[],[3,1],[0],[1],[1],[7,1],[19],[3]] mixed kR fun K hK=>dM aL (dM aL (dC (UpR w.heap.size ys s) (fun z l=>zJ yB (CallK.eq2 l.1 l.2.1 (CallK.of_ret (up_ok ((hb.ext E0).ext z) hy.1 oM oM) fun v w2 Z F=>⟨Z,F.sz (E0.trans z).size⟩)) rfl) (dM aL (dM aL (dC (UpR w.heap.size xs s) (fun z l=>zJ yB (CallK.eq2 l.1 l.2.1 (CallK.of_ret (up_ok ((ha.ext E0).ext z) hx.1 oM oM) fun v w2 Z F=>⟨Z,F.sz (E0.trans z).size⟩)) rfl) (dC (TwoR) (fun z l=>zi (cs:=dv [0,0]) zEn info164' dE dE kR (fun b w' hb Z hB hs=>⟨Z,b,rfl,hB⟩)) ?_)))))));refine dcp (AppR w.heap.size xs s 0) (fun _ _ _ _ hx h=>h.ext hx.toExt) (fun σ wx z l=>(by
      obtain ⟨ob,es,O,e1,h1,h2,h3,h4,h5,h6,h7⟩:=l.1;obtain ⟨b2,e2,h8⟩:=l.2.1;have h9:xs.length<=es.length:=by
       have t1:xs.length-1<es.length:=h3.lenlo (by rw [h4];exact dz (hx.lo (by rintro rfl;simp [nat64] at bf;omega)) (gh _ (eq dE)));omega
      have cI:=zAc (es.length+2) (xs.length+s/64+1);refine zAW zEn zEn zHZ rfl dE e1 e2 h2.cells (by rw [zAO];omega) (Cells.blk h8) rfl oM oM (fun w2 rest c hc Z hB F hs=>⟨Z,_,es,c,sM,oM,hc,h3,h9,h4,(E0.trans z).size,?_⟩);rw [zeroCells_one _ rfl,dv_rep] at F;rw [F] at hB;rw [zOI,zOI];exact hB)) ?_
     refine dM aL (du (fun z l=>zG zj l.1 eR) (dvp (u := .int .i64 ((xs.length+1:Nat):Int)) (fun σ wx z l => ?_) ?_))
     . exact zg (b:=1) (xs.length+1) l.1 rfl rfl oM ⟨Ext.refl _,rfl⟩
     refine dcp (AppR w.heap.size xs s (xs.length+1)) (fun _ _ _ _ hx h=>h.ext hx.toExt) (fun σ wx z l=>(by
      obtain ⟨I,es,c,e1,h1,h2,h3,h4,h5,h6,h7⟩:=l.1;exact zBa zj e1 l.2.1 oM oM ⟨Ext.refl _,I,es,c,sM,h1,h2,h3,h4,h5,h6,h7⟩)) ?_
     refine dC (UpR w.heap.size ys s) (fun z l=>zr (eX l.1)) (dC (AppR w.heap.size xs s (xs.length+1)) (fun z l=>zr (eX l.1)) (zAJ (hK _ fun wq z => ?_)));rintro _ rfl _ rfl v42 N42 _ rfl _ rfl v45 N45 v46 N46 v47 N47 _ rfl _ rfl _ rfl v51 N51 v10 N10 v11 N11;refine zY ?_;replace E0:=E0.trans z;refine zK (K5 [0,4,6,9,10,11] ?_);refine zA ?_;obtain ⟨vb,vs,VO,rfl,cJ,A,ax,aQ,cK,J,ad⟩:=N10;obtain ⟨I,es,c,rfl,cL,cM,b3,cN,bi,bj,C⟩:=N11;rw [ct oM,fw];obtain ⟨bk,cO,M,aa,cP⟩:=div_init (c:=c-(es.length+2)) hx hy hn2 bf bs b0 ax aQ bi;have hvu:vb≠I:=fun e=>by
      subst e;have e2:=(J.inj C).2;have e3:=cW List.length e2;rw [zAO,zAO,ad] at e3;simp at e3;omega
     have bt:Dig (es++[0,0]++List.replicate (c-(es.length+2)) 0):=(b3.1.app (by intro d hd;simp at hd;omega)).app (zCK _);have bu:(es++[0,0]++List.replicate (c-(es.length+2)) 0).length=c:=by simp;omega
     have bw:nat64 (es++[0,0]++List.replicate (c-(es.length+2)) 0)=nat64 xs*2^s:=by rw [zKo,bi]
     generalize (es++[0,0]++List.replicate (c-(es.length+2)) 0)=U0 at *;refine rI (K1 (zG zj rfl (mv (K1 (zAL (xs.length-ys.length) rfl rfl oM oM (K1 (zg (b:=1) (xs.length-ys.length+1) rfl rfl rfl oM ?_)))))));refine K1 (zAK zEn zHZ rfl rfl rfl oM oM oM fun qb w5 hb1 z hB hs => ?_);have hqb:w.heap.size<=qb:=by rw [hb1];exact E0.size
     have aR:I≠qb:=by have:=C.lt;omega
     have b4:vb≠qb:=by obtain ⟨a,b5,b6⟩:=A.lt oM;cases b5;simp only at b6;omega
     obtain ⟨E0,A,C⟩:=V2 z E0 A.ext C.ext;rw [show ((xs.length-ys.length+1:Nat):Int).toNat=xs.length-ys.length+1 from by omega,show (Value.int IntKind.u64 0).cells.toList=[Value.int IntKind.u64 0] from rfl,zAp] at hB;refine ag (rS 3664 ?_);refine zA (rJ (K1 (zG zj rfl (K1 (zC (v := .int .i64 (((xs.length-ys.length+1:Nat):Int)-1)) rfl rfl (sI (zm oM oM)) (ag (rM 7760 ?_)))))));refine zF ?_
     refine zX (X:=Nat) (fun p ρ w'=>Keep ρ [(4,.slice (some ⟨qb,0,none⟩) (xs.length-ys.length+1) (xs.length-ys.length+1)),(6,.int .i64 (ys.length:Nat)),(9,.int .i64 (s:Nat)),(10,.slice (some ⟨vb,0,none⟩) vs.length (ys.length+s/64+1)),(11,.slice (some ⟨I,0,none⟩) (xs.length+1) c),(12,.int .i64 (((p:Nat):Int)-1))]/\p<=xs.length-ys.length+1/\∃ U Q,Ext w w'/\Rd w' (some ⟨vb,0,none⟩) vs/\U.length=c/\Dig U/\Blk w' I 164 (dv U)/\Q.length=xs.length-ys.length+1/\Dig Q/\Blk w' qb 164 (dv Q)/\(∀ t,t<p->U.getD t 0=U0.getD t 0)/\nat64 (Q.drop p)*nat64 vs+seg U p ys.length=nat64 (U0.drop p)/\seg U p ys.length<nat64 vs) (fun p=>p) (xs.length-ys.length+1) ⟨(kp rfl),cX _,U0,List.replicate (xs.length-ys.length+1) 0,E0,A,bu,bt,C,sM,zCK _,hB,fun _ _=>rfl,by rw [fp sM,zTL (is aa M)];simp [nat64],by rw [zTL (is aa M)];exact aa⟩ ?_;rintro k ρ1 w1 ⟨l,cQ,U,Q,E0,A,bm,H,C,ak,al,E,bo,aS,aU⟩;refine wpe_k _ l ?_;refine zA (zA ?_);rcases k with _ | j
     . skip
       refine rI (K8 rfl (rs [4,6,9,10,11,12,62] ?_));refine wcf vF (zT (zt (zf (zI (zK (zA ?_))))));rw [eT,eT,bw,zNZ,aQ] at aS;rw [zNZ,aQ] at aU;obtain ⟨b7,b8⟩:=div_end aS aU oM;have hfR:(nat64 (U.take ys.length)).log2<17592186044416:=log2_dig (N:=137438953473) (H.take _) (by simp;omega) dE;refine zAe [[8],[1],[22],[12],[3,1],[1],[18],[3,1],[13],[3]] mixed kR fun K hK=>dM aL (dC (fun v w'=>IsW w' v (nat64 Q)) (fun z l=>zJ yB (CallK.eq1 l.1 (CallK.of_ret (zFl ak (cX _) (Rd.of_blk (E.ext z)) al oM) fun v w2 Z F=>⟨Z,F⟩)) rfl) (dM aL (dM aL (dvp (u := .slice (some ⟨I,0,none⟩) ys.length c) (fun σ wx z l => ?_) ?_))))
       . exact zBa zj l.1 l.2.1 oM oM ⟨Ext.refl _,rfl⟩
       refine dC (fun v w'=>IsW w' v (nat64 (U.take ys.length))) (fun z l=>zJ yB (CallK.eq1 l.1 (CallK.of_ret (zFl (by simp;omega) oM ((Rd.of_blk (C.ext z)).take ys.length) (H.take _) oM) fun v w2 Z F=>⟨Z,F⟩)) rfl) ?_;refine dM aL (dC (fun v w'=>IsW w' v (nat64 (U.take ys.length)/2^s)) (fun z l=>zJ yB (CallK.eq2 rfl l.2.1 (CallK.of_ret (down_ok l.1 hfR oM) fun v w2 Z F=>⟨Z,F⟩)) rfl) (dC (fun v w'=>IsW w' v (nat64 Q)) (fun z l=>zr (eX l.1)) (dC (fun v w'=>IsW w' v (nat64 (U.take ys.length)/2^s)) (fun z l=>zr (eX l.1)) (zAJ (hK _ fun wq z => ?_)))));rintro _ rfl v118 N118 _ rfl _ rfl _ rfl v122 N122 _ rfl v124 N124 v4 N4 v5 N5;refine zY ?_;obtain ⟨E0,C,E,A⟩:=V3 z E0 C.ext E.ext A.ext;refine zK (K5 [4,5,6,9,10,11,12] ?_);refine zE (zM ?_);exact ⟨rfl,_,zv rfl rfl rfl,E0,_,_,rfl,by rw [<- b7];exact N4,by rw [<- b8];exact N5⟩
     . have b9:((j+1:Nat):Int)-1=(j:Int):=by omega
       have cc:IntKind.i64.wrap ((j:Nat)-1)=(j:Int)-1:=zm oM oM;rw [b9];have hjn:j+ys.length<c:=oM
       have aA:(0:Nat)+((j+ys.length:Nat):Int).toNat*1=j+ys.length:=oM
       have bx:(0:Nat)+((j+ys.length-1:Nat):Int).toNat*1=j+ys.length-1:=oM
       have aB:(0:Nat)+((j:Nat):Int).toNat*1=j:=oM
       have aC:((ys.length-1:Nat):Int).toNat*1=ys.length-1:=oM
       obtain ⟨cR,vo,cS,cd,J,bp⟩:=A (ys.length-1) oM;cases cd;have ce:seg U j (ys.length+1)<(18446744073709551615+1)*nat64 vs:=by
        have k1:seg U (j+1) ys.length+1<=nat64 vs:=aU;have k2:=dy 18446744073709551616 k1;have k3:=H.getD j;rw [zJu];omega
       have bz:=zMN H j (ys.length-1);have cf:vs.getD (ys.length-1) 0*18446744073709551616^(ys.length-1)<=nat64 vs:=by
        have k1:=nat64_take_succ' vs (ys.length-1);rw [dF oM] at k1;rw [k1,dm];omega
       refine rI (K8 rfl (rs [4,6,9,10,11,12,62] ?_));refine wct vT (sk (zA (zF (rj (ag (rM 15952 ?_))))));refine zBZ (fun ρ w'=>∃ g:Nat,Keep ρ [(4,.slice (some ⟨qb,0,none⟩) (xs.length-ys.length+1) (xs.length-ys.length+1)),(6,.int .i64 (ys.length:Nat)),(9,.int .i64 (s:Nat)),(10,.slice (some ⟨vb,0,none⟩) vs.length (ys.length+s/64+1)),(11,.slice (some ⟨I,0,none⟩) (xs.length+1) c),(12,.int .i64 (j:Nat)),(13,.int .u64 (g:Nat))]/\g<18446744073709551616/\seg U j (ys.length+1)<(g+1)*nat64 vs/\∃ U',Ext w w'/\Rd w' (some ⟨vb,0,none⟩) vs/\U'.length=c/\Dig U'/\Blk w' I 164 (dv U')/\Q.length=xs.length-ys.length+1/\Dig Q/\Blk w' qb 164 (dv Q)/\(∀ t,t<j->U'.getD t 0=U.getD t 0)/\seg U' j (ys.length+1)=seg U j (ys.length+1)) ?_ ?_
       . refine zA (zBx 12 mixed kR fun K hK=>qM (qM (qM (qS (fun z=>zg (j+ys.length) rfl rfl rfl oM eQ) (qS (fun z=>zH (b:=I) (o:=0) (ix:=((j+ys.length:Nat):Int)) zj rfl rfl oM oM eQ) ?_)))));refine qS (fun z=>zD zAg rfl (C.ext z) (by rw [aA];exact zDP U (j+ys.length) oM) eQ) ?_;refine qM (qM (qS (fun z=>zAL (b:=1) (ys.length-1) rfl rfl oM oM eQ) (qS (fun z=>zH (b:=vb) (o:=0) (ix:=((ys.length-1:Nat):Int)) zj rfl rfl oM oM eQ) ?_)));refine qS (fun z=>zD zAg rfl (J.ext z) (by rw [aC];exact bp) eQ) ?_;refine qS (fun z=>zC rfl rfl rfl eQ) (hK _ fun wq z=>zAh ?_);obtain ⟨E0,C,E,A,J⟩:=V4 z E0 C.ext E.ext A.ext J.ext;refine zK (K5 [4,6,9,10,11,12,13,76] ?_);refine K0 rfl ?_ ?_<;>intro hc
         . have aW:U.getD (j+ys.length) 0<vs.getD (ys.length-1) 0:=t_lt hc;refine zAe [[22],[24],[12],[3,1],[7,1],[1],[22],[24],[12],[3,1],[1],[9,1],[1],[20],[12],[1],[5,1],[1],[25,11,1],[1],[1],[3],[3]] mixed kR fun K hK=>dM aL (dM aL (dM aL (dvp (u := .int .i64 ((j+ys.length:Nat):Int)) (fun σ wx z l => ?_) ?_)))
           . exact zg (j+ys.length) l.1 l.2.1 rfl oM ⟨Ext.refl _,rfl⟩
           refine dvp (u := .pointer (some ⟨I,j+ys.length,none⟩)) (fun σ wx z l => ?_) ?_
           . exact zH zj l.1 l.2.1 oM oM ⟨Ext.refl _,by rw [aA]⟩
           refine dvp (u := .int .u64 (U.getD (j+ys.length) 0:Nat)) (fun σ wx z l => ?_) ?_
           . exact zD zAg l.1 (C.ext z) (zDP U (j+ys.length) oM) ⟨Ext.refl _,rfl⟩
           refine dM aL (dM aL (dM aL (dvp (u := .int .i64 ((j+ys.length:Nat):Int)) (fun σ wx z l => ?_) ?_)))
           . exact zg (j+ys.length) l.1 l.2.1 rfl oM ⟨Ext.refl _,rfl⟩
           refine dvp (u := .int .i64 ((j+ys.length-1:Nat):Int)) (fun σ wx z l => ?_) ?_
           . exact zAL (b:=1) (j+ys.length-1) l.1 rfl oM oM ⟨Ext.refl _,rfl⟩
           refine dvp (u := .pointer (some ⟨I,j+ys.length-1,none⟩)) (fun σ wx z l => ?_) ?_
           . exact zH zj l.1 l.2.1 oM oM ⟨Ext.refl _,by rw [bx]⟩
           refine dvp (u := .int .u64 (U.getD (j+ys.length-1) 0:Nat)) (fun σ wx z l => ?_) ?_
           . exact zD zAg l.1 (C.ext z) (zDP U (j+ys.length-1) oM) ⟨Ext.refl _,rfl⟩
           refine dM aL (dM aL (dvp (u := .int .i64 ((ys.length-1:Nat):Int)) (fun σ wx z l => ?_) ?_))
           . exact zAL (b:=1) (ys.length-1) l.1 rfl oM oM ⟨Ext.refl _,rfl⟩
           refine dvp (u := .pointer (some ⟨vb,ys.length-1,none⟩)) (fun σ wx z l => ?_) ?_
           . exact zH zj l.1 l.2.1 oM oM ⟨Ext.refl _,by rw [aC,dW]⟩
           refine dvp (u := .int .u64 (vs.getD (ys.length-1) 0:Nat)) (fun σ wx z l => ?_) ?_
           . exact zD zAg l.1 (J.ext z) (by simpa using bp) ⟨Ext.refl _,rfl⟩
           refine dC (fun v _=>GuR (U.getD (j+ys.length) 0) (U.getD (j+ys.length-1) 0) (vs.getD (ys.length-1) 0) v) (fun z l=>zJ yB (CallK.eq3 l.1 l.2.1 l.2.2.1 (CallK.of_ret (zQJ aW (H.getD _) (ax.1.getD _) _) fun v w2 Z F=>⟨Z,F⟩)) rfl) (dC (fun v _=>GuR (U.getD (j+ys.length) 0) (U.getD (j+ys.length-1) 0) (vs.getD (ys.length-1) 0) v) (fun z l=>zAH (eX l.1)) ?_);refine dC (fun v _=>GuQ (U.getD (j+ys.length) 0) (U.getD (j+ys.length-1) 0) (vs.getD (ys.length-1) 0) v) (fun z l=>(by obtain ⟨a,b,e,hq⟩:=GuR.q l.1;exact zCd e rfl ⟨Ext.refl _,hq⟩)) ?_;refine dC (fun _ _=>True) (fun z l=>(by obtain ⟨a,b,e,hq⟩:=GuR.q l.1;exact zCd e rfl ⟨Ext.refl _,trivial⟩)) ?_;refine dC (fun v _=>GuQ (U.getD (j+ys.length) 0) (U.getD (j+ys.length-1) 0) (vs.getD (ys.length-1) 0) v) (fun z l=>zr (eX l.1)) (zAJ (hK _ fun wq z => ?_));rintro _ rfl _ rfl _ rfl _ rfl _ rfl _ rfl _ rfl _ rfl _ rfl _ rfl _ rfl _ rfl _ rfl _ rfl _ rfl _ rfl _ rfl _ rfl v96 N96 v77 N77 v97 N97 v98 N98 v13 N13;refine zY ?_;obtain ⟨E0,C,E,A,J⟩:=V4 z E0 C.ext E.ext A.ext J.ext;refine zL ?_;obtain ⟨g,rfl,bq,cg⟩:=N13;exact ⟨rfl,g,(kp rfl),cg,guess_le (guess_top oM) bz cf bq,U,E0,A,bm,H,C,ak,al,E,fun _ _=>rfl,rfl⟩
         . skip
           exact zw (zL ⟨rfl,18446744073709551615,(kp rfl),dE,ce,U,E0,A,bm,H,C,ak,al,E,fun _ _=>rfl,rfl⟩)
       . skip
         rintro cT w2 ⟨g0,l,bA,bB,ch,aX⟩;refine wpe_k _ l ?_;refine zA (zF (zX (X:=Nat) (fun g ρ w'=>Keep ρ [(4,.slice (some ⟨qb,0,none⟩) (xs.length-ys.length+1) (xs.length-ys.length+1)),(6,.int .i64 (ys.length:Nat)),(9,.int .i64 (s:Nat)),(10,.slice (some ⟨vb,0,none⟩) vs.length (ys.length+s/64+1)),(11,.slice (some ⟨I,0,none⟩) (xs.length+1) c),(12,.int .i64 (j:Nat)),(13,.int .u64 (g:Nat))]/\g<18446744073709551616/\seg U j (ys.length+1)<(g+1)*nat64 vs/\∃ U',Ext w w'/\Rd w' (some ⟨vb,0,none⟩) vs/\U'.length=c/\Dig U'/\Blk w' I 164 (dv U')/\Q.length=xs.length-ys.length+1/\Dig Q/\Blk w' qb 164 (dv Q)/\(∀ t,t<j->U'.getD t 0=U.getD t 0)/\seg U' j (ys.length+1)=seg U j (ys.length+1)) (fun g=>g) g0 ⟨(kp rfl),bA,bB,ch,aX⟩ ?_));rintro g ρ3 w3 ⟨l,aV,ci,U1,E0,A,bC,bD,bE,_,_,E,aD,bF⟩;refine wpe_k _ l ?_;refine zA (rJ (mv (K1 (zEv zj rfl rfl oM oM ?_))));rw [show ((j:Nat):Int).toNat=j from by omega,ct oM,show Option.map (fun a=>Addr.add a (j*1)) (some (⟨I,0,none⟩:Addr))=some ⟨I,j,none⟩ from by simp [zAm]];refine mv (mv ?_);refine K1 (zJ yB ((take_ok bE bD A ax.1 (fun a ha _=>by cases ha;exact hvu) aV oM oM oM).mono fun v2 w4 F => ?_) rfl)
         obtain ⟨U2,cv,rfl,cj,hW,aE,am,an,ao,ab⟩:=F;replace E0:=E0.upd hW bj;replace A:=A.upd' hW (fun a ha _=>by cases ha;exact hvu);replace E:=E.upd hW (eH aR);rw [bk] at ao ab;rw [bC] at am;rw [bF] at ab;obtain ⟨bG,bH⟩:=take_res ab cj (zMN H j (ys.length+1)) (zMN an j (ys.length+1)) ci (dz (eU M) (dw dE oM));refine rm [4,6,9,10,11,12,13,104] ?_;refine K0 rfl ?_ ?_<;>intro hc
         . obtain rfl:cv=1:=by have:=fO.1 hc;omega
           obtain ⟨bI,bq⟩:=bH rfl;refine sk (zF (rJ (mv (K1 (zEv zj rfl rfl oM oM ?_)))));rw [show ((j:Nat):Int).toNat=j from by omega,ct oM,show Option.map (fun a=>Addr.add a (j*1)) (some (⟨I,0,none⟩:Addr))=some ⟨I,j,none⟩ from by simp [zAm]];refine mv (mv ?_);refine K1 (zJ yB ((give_ok aE an A ax.1 (fun a ha _=>by cases ha;exact hvu) aV oM oM oM).mono fun v3 w5 F => ?_) rfl);obtain ⟨U3,c3,ck,hW,bJ,bK,aF,aG,aH⟩:=F;replace E0:=E0.upd hW bj;replace A:=A.upd' hW (fun a ha _=>by cases ha;exact hvu);replace E:=E.upd hW (eH aR);rw [bk] at aG aH;have cl:=give_res ab aH ck (zMN H j (ys.length+1)) (zMN aF j (ys.length+1));refine rM 15952 ?_;refine rI (K1 (zED (b:=1) (g-1) rfl rfl oM oM (ag (rl (zN (zL ?_))))));exact ⟨rfl,g-1,⟨(kp rfl),oM,by rw [show g-1+1=g from by omega];exact bI,U3,E0,A,bK.trans am,aF,bJ,ak,al,E,fun t ht=>(aG t (Or.inl ht)).trans ((ao t (Or.inl ht)).trans (aD t ht)),cl⟩,oM⟩
         . obtain rfl:cv=0:=by have:=fP.1 hc;omega
           obtain ⟨hS,ap⟩:=bG rfl;refine zT (zt (zf (zI (zK (rI (mv (mv ?_)))))));have bL:=am;have aq:=an;have cm:∀ t,t<j->U2.getD t 0=U.getD t 0:=fun t ht=>(ao t (Or.inl ht)).trans (aD t ht);generalize U2=U' at *;have ar:=aE;refine K1 (zH (b:=qb) (o:=0) (ix:=((j:Nat):Int)) zj rfl rfl oM oM ?_);refine K1 (zc zDZ rfl E rfl (by rw [aB,zAO];omega) dE rfl fun w6 hW hN => ?_);replace E0:=E0.upd hW hqb;replace A:=A.upd' hW (fun a ha _=>by cases ha;exact b4);replace ar:=ar.upd hW aR;refine rl (zN (zK (K5 [4,6,9,10,11,12,13] ?_)));refine rI (K1 (zC (v := .int .i64 ((j:Nat)-1)) rfl rfl (sI cc) (ag (rl (zL (⟨rfl,j,⟨(kp rfl),oM,U',Q.set j g,E0,A,bL,aq,ar,by simp [ak],al.set _ aV,zAq hN aB,fun t ht=>(cm t ht).trans (bo t oM),?_,?_⟩,oM⟩))))))
           . rw [(zTM aq ap (eU M)).2];exact div_step (X:=seg U j (ys.length+1)) (zGS oM) aS (by rw [zJu,bo j oM]) hS (by rw [zKO oM])
           . rw [(zTM aq ap (eU M)).2];exact ap
variable {m:Nat}
theorem zEh (h:m<=n):m.log2<=n.log2:=by
 by_cases h0:m=0
 . subst h0;exact di _
 . have h1:=Nat.log2_self_le h0;rcases dR n.log2 m.log2 with h2 | h2
   . have l:=(gd (by omega:n≠0)).1 h2;omega
   . exact h2
theorem Fit.le (h:Fit n) (l:m<=n):Fit m:=eN (zEh l) h
theorem zJl (a b:Nat):Nat.gcd b (a%b)=Nat.gcd a b:=by
 rw [gx a b,Nat.gcd_rec b a,gx]
theorem zFO {x y:Value} (l:IsW w x a) (z:IsW w y b) (ap:Fit a) (aq:Fit b):Ret prog 155 #[x,y] w (fun v w'=>IsW w' v (Nat.gcd a b)):=by
 refine J0 44 func155 rfl (rj (ag (rM 3 ?_)));refine zA (zF (zX (X:=Nat×Nat) (fun p ρ w'=>∃ vx vy,Keep ρ [(0,vx),(1,vy)]/\Ext w w'/\IsW w' vx p.1/\IsW w' vy p.2/\Fit p.1/\Fit p.2/\Nat.gcd p.1 p.2=Nat.gcd a b) (fun p=>p.2) (a,b) ⟨x,y,(kp rfl),E0,l.ext E0,z.ext E0,ap,aq,rfl⟩ ?_));rintro ⟨A,B⟩ ρ1 w1 ⟨vx,vy,hk,E0,l,z,hA,Z,C⟩;simp only at l z hA Z C;have hy0:=z;obtain ⟨pb,ys,cb,rfl,aA,hb,H,h⟩:=hy0;have hyl:=H.fit (h ▸ Z);refine wpe_k _ hk ?_;refine zA (rJ (K1 (zG zj rfl (K8 rfl (rM 4099 ?_)))));refine K0 rfl ?_ ?_<;>intro E
 . have ab:1<ys.length:=by have:=dh E;omega
   have J:B≠0:=fun e=>by rw [e] at h;have:=H.zero.1 h;subst this;simp at ab
   refine sk (zF (rJ (mv (K1 (j2 E0 l.ext z.ext yB (zSP l z hA Z J) fun ay w1 E0 l z hr => ?_)))));obtain ⟨q1,r1,rfl,aB,ar⟩:=hr;refine mv (xt rfl (xt rfl (ag (ag (rM 66 ?_)))));exact rI (mv (ag (ag (rl (zN (zL (⟨rfl,(B,A%B),⟨_,_,(kp rfl),E0,z,ar,Z,Z.le (eU (eE _ (gG J))),(zJl A B).trans C⟩,eE _ (gG J)⟩)))))))
 . have ab:ys.length<=1:=by have:=de E;omega
   refine zT (zt (zf (zI (zK (zA (rJ (K1 (zG zj rfl (K8 rfl (rm [0,1,23] ?_))))))))));refine K0 rfl ?_ ?_<;>intro E
   . have ad:ys.length=0:=by have:=gC E;omega
     obtain rfl:=ef ad;obtain rfl:B=0:=by rw [<- h];rfl
     rw [Nat.gcd_zero_right] at C;refine rJ (ag (rM 18 ?_));exact zE (zU (en rfl E0 (C ▸ l)))
   . have ad:ys.length≠0:=fun e=>by rw [e] at E;cases E
     obtain ⟨F,rfl⟩:∃ F,ys=[F]:=gk.1 oM;obtain ⟨b2,o2,aC,ae,I,ah⟩:=hb 0 sM;rw [zFW] at h;subst h;have M:F<18446744073709551616:=H.1 F sM;have ai:0<F:=by
      rcases fV F with e | e
      . subst e;exact absurd rfl H.2
      . exact e
     refine sk (rJ (mv (K1 (zH (ix:=0) (b:=b2) (o:=o2) zj (cW (fun p=>Value.slice p 1 cb) ae) rfl oM dE (K1 (zD zAg rfl I (by simpa using ah) (K1 (j3 E0 l.ext z.ext I.ext yB (zQV l hA ai M) fun v6_4 w1 E0 l z I hr => ?_))))))));obtain ⟨q1,rfl,aD⟩:=hr;refine mv (xt rfl (xt rfl (ag (ag (rM 258 ?_)))));refine zA (rI (K1 (zH (ix:=0) (b:=b2) (o:=o2) zj (cW (fun p=>Value.slice p 1 cb) ae) rfl oM dE (K1 (zD zAg rfl I (by simpa using ah) (ag (rS 770 ?_)))))));refine zA (zF (zX (X:=Nat×Nat) (fun p ρ w'=>Keep ρ [(8,.int .u64 (p.1:Nat)),(9,.int .u64 (p.2:Nat))]/\Ext w w'/\p.1<18446744073709551616/\p.2<18446744073709551616/\Nat.gcd p.2 p.1=Nat.gcd a b) (fun p=>p.1) (A%F,F) ⟨(kp rfl),E0,is (eE _ ai) M,M,(zJl A F).trans C⟩ ?_));rintro ⟨u,v⟩ ρ2 w2 ⟨hk,E0,hu,hv,C⟩;simp only at hu hv C;refine wpe_k _ hk ?_;refine zA (rJ (K8 rfl (rm [8,9,37] ?_)));refine K0 rfl ?_ ?_<;>intro E
     . have au:u≠0:=t_bne (b:=0) E;exact sk (zF (rI (mv (K1 (zPC (v%u) rfl rfl au rfl (mv (ag (ag (rl (zN (zL (⟨rfl,(v%u,u),⟨(kp rfl),E0,is (eE _ oM) hu,hu,(zJl v u).trans C⟩,eE _ oM⟩))))))))))))
     . obtain rfl:u=0:=f_bne (b:=0) E;rw [Nat.gcd_zero_right] at C;refine zT (zt (zf (zI (zK (rJ (K1 (j0 E0 yB (zGb hv) fun v10_1 w2 E0 hr => ?_)))))));refine ag (rM 784 ?_);exact zE (en rfl E0 (C ▸ hr))
end Go.Proofs.YtjiendlfobjanaaGreatDoor
namespace Go.Proofs.YtjiendlfobjanaaGreatDoor
open Go Go.RowKit Go.Proofs Tryz
variable {K:Value->World->Prop} {P:Program} {T t' ty:TypeId} {a b i n:Nat} {af:Array Edge} {cs:List Value} {g:Option (Nat×Bool)} {pos:String} {r:Option Nat} {u v:Value} {w w' w0:World} {α:Type} {σ:Operand->Value}
theorem IsW.of_eq (h:v=u) (l:IsW w u n):IsW w v n:=h ▸ l
theorem IsNum.of_eq {q:Rat} (h:v=u) (l:IsNum w u q):IsNum w v q:=h ▸ l
theorem nin1 (h:a≠b):a ∉ [b]:=by simp [h]
theorem noW1 (h:Blk w b T cs) (l:T≠164):NoW [b] w:=fun c z=>by
 rw [dI.1 z];exact ⟨T,cs,h,l⟩
theorem all1 {p:α->Prop} {a:α} (h:p a):∀ s∈[a],p s:=fun s hs=>by rw [dI.1 hs];exact h
def Cell3 (b:Nat) (w:World):Prop:=∃ cs,Blk w b 37 cs/\cs.length=3
def NumAt (b:Nat) (q:Rat) (w:World):Prop:=∃ cs,Blk w b 37 cs/\cs.length=3/\IsNum w (.agg cs.toArray) q
theorem Cell3.of (h:Blk w b 37 cs) (l:cs.length=3):Cell3 b w:=⟨cs,h,l⟩
theorem NumAt.ext {q:Rat} (h:NumAt b q w) (l:Ext w w'):NumAt b q w':=by
 obtain ⟨cs,h1,z,A⟩:=h;exact ⟨cs,h1.ext l,z,A.ext l⟩
theorem zHb {q:Rat} (z:Blk w0 b 37 cs) (A:cs.length=3) :
 (⟨i,b,Cell3 b,NumAt b q⟩:StoreSpec).blk<w0.heap.size/\(⟨i,b,Cell3 b,NumAt b q⟩:StoreSpec).pre w0/\∀ w w',ExtS [b] w0 w->ExtS [b] w w'->w'.heap[(⟨i,b,Cell3 b,NumAt b q⟩:StoreSpec).blk]? = w.heap[(⟨i,b,Cell3 b,NumAt b q⟩:StoreSpec).blk]? ->
  ((⟨i,b,Cell3 b,NumAt b q⟩:StoreSpec).pre w->(⟨i,b,Cell3 b,NumAt b q⟩:StoreSpec).pre w')/\((⟨i,b,Cell3 b,NumAt b q⟩:StoreSpec).post w->(⟨i,b,Cell3 b,NumAt b q⟩:StoreSpec).post w'):=by
 refine ⟨z.lt,⟨cs,z,A⟩,fun w w' _ C he=>⟨?_,?_⟩⟩
 . rintro ⟨h,h1,l⟩;exact ⟨h,by show w'.heap[b]? = _;rw [he];exact h1,l⟩
 . rintro ⟨h,h1,l,E⟩;exact ⟨h,by show w'.heap[b]? = _;rw [he];exact h1,l,E.extS C (noW1 h1 dE)⟩
theorem zBY {d:Option Tmp} {x y:Operand} {q:Rat} (E:σ x = .pointer (some ⟨b,0,none⟩)) (l:IsNum w (σ y) q) (F:Cell3 b w) :
 Runs prog r ⟨d,.store 37 x y,ty,pos,af,g⟩ σ w (fun _ w'=>Upd b w w'/\NumAt b q w'):=by
 obtain ⟨cs,z,H⟩:=F;have h:=l;obtain ⟨n,dd,he,I,J⟩:=l;obtain ⟨p1,M,c1,rfl,-⟩:=I;obtain ⟨p2,Z,c2,rfl,-⟩:=J;refine zc zJV E z (by rw [he];rfl) oM dE (by rw [he];rfl) fun w' A C=>⟨A,?_⟩;rw [he] at C h
 match cs,H with
 | [a,b',c],_=>exact ⟨_,C,rfl,h.upd A z dE⟩
theorem zO {d:Option Tmp} {x y:Operand} {q:Rat} (l:σ x = .pointer (some ⟨b,0,none⟩)) (z:IsNum w (σ y) q) (A:Cell3 b w)
 (C:∀ v w',Upd b w w'->NumAt b q w'->K v w'):Runs prog r ⟨d,.store 37 x y,ty,pos,af,g⟩ σ w K :=
 (zBY l z A).mono fun v w' h=>C v w' h.1 h.2
theorem run_equalIn_bool {t:TypeId} (h:P.underlying t=some .bool) (d:Nat) (a b:Bool) (w:World):(Op.equalIn (d+1) t (.bool a) (.bool b)).run P w = .ok (a==b) w:=by
 unfold Op.equalIn;simp [run_underlying h]
theorem zHH {t:TypeId} (h:P.underlying t=some .bool) (a b:Bool) (w:World):(Op.equal t (.bool a) (.bool b)).run P w = .ok (a==b) w:=run_equalIn_bool h 9999 a b w
theorem zFz (h:BinOp) (t:TypeId) (x y:Operand) (a b:Bool) (w:World):(eqGuard h t x y (.bool a) (.bool b)).run P w = .ok () w:=by
 unfold eqGuard;cases h<;>simp
theorem zOy {d:Option Tmp} {t:TypeId} {x y:Operand} {a b:Bool} (h:P.underlying t=some .bool) (l:σ x = .bool a) (z:σ y = .bool b) (A:K (.bool (a != b)) w):Runs P r ⟨d,.binOp .neq t x y t',ty,pos,af,g⟩ σ w K:=by
 refine zy (fun _ e=>by cases e) ?_ A;simp [execOp,binOp,l,z,zFz,zHH h]
 try (cases a<;>cases b<;>rfl)
theorem runs_beql {d:Option Tmp} {t:TypeId} {x y:Operand} {a b:Bool} (h:P.underlying t=some .bool) (l:σ x = .bool a) (z:σ y = .bool b) (A:K (.bool (a==b)) w):Runs P r ⟨d,.binOp .eql t x y t',ty,pos,af,g⟩ σ w K:=by
 refine zy (fun _ e=>by cases e) ?_ A;simp [execOp,binOp,l,z,zFz,zHH h]
theorem zTU:prog.underlying 4=some .bool:=kR
theorem IsNum.zero:IsNum w (.agg #[.bool false,.slice none 0 0,.slice none 0 0]) 0:=⟨_,_,rfl,IsW.nil rfl,IsW.nil rfl⟩
end Go.Proofs.YtjiendlfobjanaaGreatDoor
namespace Go.Proofs.YtjiendlfobjanaaGreatDoor
open Go Go.RowKit Go.Proofs Tryz
set_option maxRecDepth 10000
set_option maxHeartbeats 2000000
attribute [local irreducible] Runs WPE CallK Ret
variable {a b n:Nat} {v:Value} {w:World}
theorem IsNum.mk' {s:Bool} {n d:Value} (l:a≠0) (h:b≠0) (z:IsW w n (a/Nat.gcd a b)) (A:IsW w d (if b/Nat.gcd a b=1 then 0 else b/Nat.gcd a b)):IsNum w (.agg #[.bool s,n,d]) (qOf s a b) :=
 ⟨n,d,by rw [zPu l h],by rw [zIo h];exact z,by rw [zLB h];exact A⟩
theorem IsW.form (h:IsW w v n):∃ p l c,v = .slice p l c/\(l=0↔n=0):=by
 obtain ⟨p,ds,c,h1,C,E,z,A⟩:=h;refine ⟨p,ds.length,c,h1,?_⟩;rw [fe,<- A];exact z.zero.symm
theorem zCQ {s:Bool} {n d:Value} (l:IsW w n a) (z:IsW w d b) (aa:b≠0) (I:Fit a) (ab:Fit b):Ret prog 102 #[.bool s,n,d] w (fun v w'=>IsNum w' v (qOf s a b)):=by
 obtain ⟨pn,ln,kn,rfl,ad⟩:=l.form;refine J0 44 func102 rfl (rj ?_);refine K1 (zR zAt (Z2 E0 l.ext z.ext fun b1 w1 E0 l z hgb1 h=>rM 71 ?_));refine zA (rJ (K1 (zG zj rfl (K8 rfl (rM 1095 ?_)))));refine K0 rfl ?_ ?_<;>intro hc
 . have E:a=0:=ad.1 (by have:=gC hc;omega);subst E;refine rj (K1 (zV (cs := #[.bool false,.slice none 0 0,.slice none 0 0]) kR (K1 (zc zJV rfl h rfl (cw rfl) dE rfl fun w2 hU hN => ?_))));replace E0:=E0.upd hU hgb1;replace l:=l.upd hU h dE;replace z:=z.upd hU h dE;clear h;have h:=hN;refine rM 65 ?_;refine zE (zU (zM ?_));exact ⟨rfl,_,zq rfl rfl rfl zAI h rfl,E0,by rw [zNP];exact IsNum.zero⟩
 . have E:a≠0:=fun e=>by rw [ad.2 e] at hc;cases hc
   refine sk (zBZ (fun ρ w'=>∃ vn vd,Keep ρ [(0,.bool s),(1,vn),(2,vd),(6,.pointer (some ⟨b1,0,none⟩))]/\Ext w w'/\IsW w' vn (a/Nat.gcd a b)/\IsW w' vd (b/Nat.gcd a b)/\Blk w' b1 37 [Value.bool false,Value.slice none 0 0,Value.slice none 0 0]) ?_ ?_)
   . refine zA ?_;rcases (oM:a=1\/(a≠1/\b=1)\/(a≠1/\b≠1)) with h1 | ⟨h1,h2⟩ | ⟨h1,h2⟩
     . have J:a=1\/b=1:=Or.inl h1;refine rI (K1 (j3 E0 l.ext z.ext h.ext yB (zCZ l) fun H w2 E0 l z h C => ?_));obtain rfl:=C.trans (cW Value.bool (cZ h1));refine K1 (zp rfl (mv (K3 (K3 (K3 (pc0 rfl (rS 524359 ?_)))))));refine wcf rfl (zw (zL ?_));have F:Nat.gcd a b=1:=by rcases J with e | e<;>rw [e]<;>simp
       exact ⟨rfl,_,_,(kp rfl),E0,by rw [F,fI];exact l,by rw [F,fI];exact z,h⟩
     . have J:a=1\/b=1:=Or.inr h2;refine rI (K1 (j3 E0 l.ext z.ext h.ext yB (zCZ l) fun H w2 E0 l z h C => ?_));obtain rfl:=C.trans (cW Value.bool (cU h1));refine K1 (zp rfl (mv (K7 (K2 (j3 E0 l.ext z.ext h.ext yB (zCZ z) fun v3_5 w3 E0 l z h C => ?_)))));obtain rfl:=C.trans (cW Value.bool (cZ h2));refine K2 (zp rfl (pc0 rfl (rS 524359 ?_)));refine wcf rfl (zw (zL ?_));have F:Nat.gcd a b=1:=by rcases J with e | e<;>rw [e]<;>simp
       exact ⟨rfl,_,_,(kp rfl),E0,by rw [F,fI];exact l,by rw [F,fI];exact z,h⟩
     . skip
       refine rI (K1 (j3 E0 l.ext z.ext h.ext yB (zCZ l) fun H w2 E0 l z h C => ?_));obtain rfl:=C.trans (cW Value.bool (cU h1));refine K1 (zp rfl (mv (K7 (K2 (j3 E0 l.ext z.ext h.ext yB (zCZ z) fun v3_5 w3 E0 l z h C => ?_)))));obtain rfl:=C.trans (cW Value.bool (cU h2));refine K2 (zp rfl (pc0 rfl (rS 524359 ?_)));refine wct rfl (rJ (mv (K1 (j3 E0 l.ext z.ext h.ext yB (zFO l z I ab) fun v4_2 w4 E0 l z h A => ?_))));have hg0:Nat.gcd a b≠0:=fun e=>E (Nat.gcd_eq_zero_iff.1 e).1;have hfg:Fit (Nat.gcd a b):=I.le (Nat.le_of_dvd (gG E) (ij a b));refine ag (rM 199 ?_);refine rJ (K1 (j4 E0 l.ext z.ext h.ext A.ext yB (zCZ A) fun v5_1 w5 E0 l z h A C => ?_));subst C;refine K1 (zp rfl (rM 33554631 ?_));refine K0 rfl ?_ ?_<;>intro hc
       . skip
         refine rJ (mv (K1 (j4 E0 l.ext z.ext h.ext A.ext yB (zSP l A I hfg hg0) fun an w6 E0 l z h A C => ?_)));obtain ⟨q1,r1,rfl,M,-⟩:=C;refine mv (xt rfl (xt rfl (ag (rM 199 ?_))));refine rI (mv (K1 (j5 E0 l.ext z.ext h.ext A.ext M.ext yB (zSP z A ab hfg hg0) fun v7_2 w7 E0 l z h A M C => ?_)));obtain ⟨q2,r2,rfl,aj,-⟩:=C;exact mv (xt rfl (xt rfl (ag (rl (zL ⟨rfl,_,_,(kp rfl),E0,M,aj,h⟩)))))
       . have ak:Nat.gcd a b=1:=by simpa using hc
         refine zw (zL ?_);have F:Nat.gcd a b=1:=ak;exact ⟨rfl,_,_,(kp rfl),E0,by rw [F,fI];exact l,by rw [F,fI];exact z,h⟩
   . skip
     rintro au w2 ⟨vn,vd,hk,E0,l,z,h⟩;obtain ⟨p1,l1,k1,rfl,-⟩:=l.form;obtain ⟨p2,l2,k2,rfl,-⟩:=z.form;refine wpe_k _ hk ?_;refine zA (rJ (K1 (j3 E0 l.ext z.ext h.ext yB (zCZ z) fun v8_1 w2 E0 l z h C => ?_)));subst C;refine rm [0,1,2,6,39] ?_;refine K0 rfl ?_ ?_<;>intro hc
     . have Z:b/Nat.gcd a b=1:=dh hc;refine K6 (ag (rS 71 ?_));refine rJ (mv (mv (K1 (zV (cs := #[.bool s,.slice p1 l1 k1,.slice none 0 0]) kR (K1 (zc zJV rfl h rfl (cw rfl) dE rfl fun w3 hU hN => ?_))))));replace E0:=E0.upd hU hgb1;replace l:=l.upd hU h dE;replace z:=z.upd hU h dE;clear h;have h:=hN;refine rM 65 ?_;refine zE (zM ?_);exact ⟨rfl,_,zq rfl rfl rfl zAI h rfl,E0,IsNum.mk' E aa l (by rw [cD Z];exact IsW.nil rfl)⟩
     . have Z:b/Nat.gcd a b≠1:=de hc;refine sk (rJ (mv (mv (K1 (zV (cs := #[.bool s,.slice p1 l1 k1,.slice p2 l2 k2]) kR (K1 (zc zJV rfl h rfl (cw rfl) dE rfl fun w3 hU hN => ?_)))))));replace E0:=E0.upd hU hgb1;replace l:=l.upd hU h dE;replace z:=z.upd hU h dE;clear h;have h:=hN;refine rM 65 ?_;refine zE (zM ?_);exact ⟨rfl,_,zq rfl rfl rfl zAI h rfl,E0,IsNum.mk' E aa l (by rw [ct Z];exact z)⟩
end Go.Proofs.YtjiendlfobjanaaGreatDoor
