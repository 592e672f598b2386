/-
  A part of the proof: W65, W66, LawF, LawF2, LawD, W70, LawD2, W71.
-/
import Derived.Test.YtjiendlfobjanaaGreatDoorH05
namespace Go.Proofs.YtjiendlfobjanaaGreatDoor.R
open Go Go.RowKit Go.Proofs Tryz
set_option maxRecDepth 10000
set_option maxHeartbeats 2000000
attribute [local irreducible] Runs WPE CallK Ret
variable {af:Array Edge} {g:Option (Nat×Bool)} {pos:String} {r:Option Nat} {ty:TypeId} {w:World} {σ:Operand→Value}
section laws
variable {K:Value→World→Prop} {d:Option Tmp}
end laws
end Go.Proofs.YtjiendlfobjanaaGreatDoor.R
namespace Go.Proofs.YtjiendlfobjanaaGreatDoor
open Go Go.RowKit Go.Proofs Tryz
set_option maxRecDepth 10000
set_option maxHeartbeats 2000000
attribute [local irreducible] Runs WPE CallK Ret
variable {P:Program} {a' b' v:Value} {af:Array Edge} {f:FuncId} {g:Option (Nat×Bool)} {n:Nat} {p:Poly} {pos:String} {r:Option Nat} {ty:TypeId} {w:World} {σ:Operand→Value}
theorem CallK.eq4 {a b c c' d d':Value} {K:Value→World→Prop} (h:a=a') (h2:b=b') (h3:c=c') (h4:d=d') (hk:CallK P f #[a',b',c',d'] w K):CallK P f #[a,b,c,d] w K:=by rw [h,h2,h3,h4];exact hk
def zFS (T a b:Poly):Nat→Poly→Poly→Option Poly
 | 0,out,_=>some out
 | k+1,out,pw=>(pmul out a).bind fun o=>(if k<T.length then (zCA pw (T.getD k 0)).bind fun s=>padd o s else some o).bind fun o'=>(pmul pw b).bind fun pw'=>zFS T a b k o' pw'
def zCm (p a b:Poly) (n:Nat):Option Poly:=zFS (trim p) a b (n+1) [] [1]
section laws
variable {K:Value→World→Prop} {d:Option Tmp}
theorem zLC {x:Operand} {p:Rat} (hx:IsNum w (σ x) p) (hk:∀ v w',Ext w w'→zO w' v [p]→K v w'):Runs prog r ⟨d,.buildSlice 25 1 #[(0,x)],ty,pos,af,g⟩ σ w K:=by
 have hx0:=hx;obtain ⟨n,dd,he,hn,hd⟩:=hx;rw [he] at hx0;refine zc (cs:=[.bool (decide (p<0)),n,dd]) zAb info37' (by decide) (by decide) ?_ fun b w' hb hE hB hs'=>hk _ _ hE ⟨some ⟨b,0,none⟩,1,rfl,Nat.le_refl _,.inr ⟨b,0,_,rfl,hB,by simp,fun i hi => ?_⟩,by simp⟩
 · show Instr.fill _ _ [(0,σ x)]=_;rw [he]
   kernel_rfl
 · match i,hi with
   | 0,_=>exact hx0.ext hE
theorem zEW {x y:Operand} {p q:Rat} (hx:IsNum w (σ x) p) (hy:IsNum w (σ y) q) (hk:∀ v w',Ext w w'→zO w' v [p,q]→K v w'):Runs prog r ⟨d,.buildSlice 25 2 #[(0,x),(1,y)],ty,pos,af,g⟩ σ w K:=by
 have hx0:=hx;have hy0:=hy;obtain ⟨n,dd,he,hn,hd⟩:=hx;obtain ⟨n2,dd2,he2,hn2,hd2⟩:=hy;rw [he] at hx0;rw [he2] at hy0;refine zc (cs:=[.bool (decide (p<0)),n,dd,.bool (decide (q<0)),n2,dd2]) zAb info37' (by decide) (by decide) ?_ fun b w' hb hE hB hs'=>hk _ _ hE ⟨some ⟨b,0,none⟩,2,rfl,Nat.le_refl _,.inr ⟨b,0,_,rfl,hB,by simp,fun i hi => ?_⟩,by simp⟩
 · show Instr.fill _ _ [(0,σ x),(1,σ y)]=_;rw [he,he2]
   kernel_rfl
 · match i,hi with
   | 0,_=>exact hx0.ext hE
   | 1,_=>exact hy0.ext hE
end laws
theorem zKm {va vb:Value} {a b R:Poly} {m:Int} (hm:m=((n:Nat):Int)) (hp:zO w v p) (ha:zO w va a) (hb:zO w vb b) (hn:n<1000000) (h:zCm p a b n=some R):Ret prog 127 #[v,va,vb,.int .i64 m] w (fun r w'=>zO w' r R):=by
 subst hm;unfold zCm at h;have E0:Ext w w:=Ext.refl w;refine J0 40 func127 rfl (rj fun K=>ag (rm [0,1,2,3] K ?_));refine rJ fun K=>K1 (j0 E0 hb34 (zCB hp) fun v13 w2 E0 hT => ?_);obtain ⟨tp,tc,rfl,htc,hT,htl,-⟩:=hT;refine ag (rm [0,1,2,3] K ?_);refine rj fun K=>ag (rm [0,1,2,3,9] K ?_);refine rj fun K=>K1 (j1 E0 hT.ext hb100 (zEs) fun v14 w2 E0 hT N14=>K1 (zLC N14 fun v15 w4 hE N15 => ?_));replace E0:=E0.trans hE;replace hT:=hT.ext hE;clear hE N14;refine ag (rm [0,1,2,3,9,10] K ?_);refine zA (rJ fun K=>ag (rm [0,1,2,9,10,11] K ?_));refine zD (ze (X:=Nat) (fun k ρ w'=>∃ vo vw o pw,Keep ρ [(0,.slice tp (trim p).length tc),(1,va),(2,vb),(9,vo),(10,vw),(11,.int .i64 (((k:Nat):Int)-1))]∧k≤n+1∧Ext w w'∧PRd w' tp (trim p)∧zO w' vo o∧zO w' vw pw∧zFS (trim p) a b k o pw=some R) (fun k=>k) (n+1) ⟨_,_,_,_,⟨rfl,rfl,rfl,rfl,rfl,rfl,rfl,rfl,rfl,rfl,rfl,congrArg (Value.int .i64) (by omega),trivial⟩,Nat.le_refl _,E0,hT,zO.nil,N15,h⟩ ?_);clear E0 hT N15 h;rintro k ρ1 w1 ⟨vo,vw,o,pw,hk,hkl,E0,hT,hO,hW,h⟩;refine wpe_k _ hk ?_;clear hk ρ1;refine zA (zA ?_);rcases k with _ | k
 · obtain rfl:=Option.some.inj h;refine rI fun K=>K8 rfl (rs [0,1,2,9,10,11,18] K ?_);refine wcf rfl (zV (zv (zi (zL (zN (rJ fun K=>ag (rm [0,8,11] K ?_)))))));exact zB (en rfl E0 hO)
 · have hk0:decide ((((k+1:Nat):Int)-1)≥0)=true:=by simp only [decide_eq_true_eq];omega
   have hwk:IntKind.i64.wrap (((k+1:Nat):Int)-1-1)=((k:Nat):Int)-1:=by rw [zj (by omega) (by omega)];omega
   have hkn:(((k+1:Nat):Int)-1)=(k:Int):=by omega
   unfold zFS at h;obtain ⟨o1,h1,h⟩:=bind_some h;obtain ⟨o2,h2,h⟩:=bind_some h;obtain ⟨pw2,h3,h⟩:=bind_some h;refine rI fun K=>K8 rfl (rs [0,1,2,9,10,11,18] K ?_);refine wct (congrArg Value.bool hk0) (sk (zA (zD (rJ fun K=>mv (K1 (j2 E0 hT.ext hW.ext hb71 (zEj hO (ha.ext E0) h1) fun v23 w2 E0 hT hW N23 => ?_))))));replace hO:=N23.poly
   try clear N23
   refine ag (rm [0,1,2,9,10,11] K ?_);refine zBO (fun ρ w'=>∃ vo,Keep ρ [(0,.slice tp (trim p).length tc),(1,va),(2,vb),(9,vo),(10,vw),(11,.int .i64 (((k+1:Nat):Int)-1))]∧Ext w w'∧PRd w' tp (trim p)∧zO w' vo o2∧zO w' vw pw) ?_ ?_
   · refine rJ fun K=>mv (K1 (zG zAB rfl (K8 rfl (rm [0,1,2,9,10,11,27] K ?_))));refine K0 rfl ?_ ?_<;>intro hc
     · have hlt:k<(trim p).length:=by have:=of_decide_eq_true hc;omega
       clear hc;rw [if_pos hlt] at h2;obtain ⟨s,hs1,hs2⟩:=bind_some h2;refine rI fun K=>mv (mv (mv (K1 (zAL (ix:=k) hT rfl (congrArg (Value.int .i64) hkn) hlt (K1 (zAS hT (i:=k) hlt rfl fun v33 N33=>K1 (j3 E0 hT.ext hW.ext hO.ext hb56 (zDn hW N33 hs1) fun v34 w2 E0 hT hW hO N34 => ?_)))))))
       try clear N33
       refine K1 (j2 E0 hT.ext hW.ext hb149 (zJG hO N34.poly hs2) fun v35 w2 E0 hT hW N35 => ?_)
       try clear N34
       exact ag (rl K (zP ⟨rfl,_,(kp rfl),E0,hT,N35.poly,hW⟩))
     · have hge:¬ k<(trim p).length:=fun e=>of_decide_eq_false hc (by omega);clear hc;rw [if_neg hge] at h2;obtain rfl:=Option.some.inj h2;exact zm (zP ⟨rfl,_,(kp rfl),E0,hT,hO,hW⟩)
   · clear E0 hT hO hW;rintro ρ2 w2 ⟨vo,hk,E0,hT,hO,hW⟩;refine wpe_k _ hk ?_;clear hk ρ2;refine rI fun K=>mv (K1 (j2 E0 hT.ext hO.ext hb71 (zEj hW (hb.ext E0) h3) fun v38 w2 E0 hT hO N38 => ?_));replace hW:=N38.poly
     try clear N38
     refine ag (rl K (zS (zN (K5 [0,1,2,9,10,11] ?_))));exact rI fun K=>K8 rfl (ag (rl K (zP (⟨rfl,k,⟨_,_,_,_,⟨rfl,rfl,rfl,rfl,rfl,rfl,rfl,rfl,rfl,rfl,rfl,congrArg (Value.int .i64) hwk,trivial⟩,by omega,E0,hT,hO,hW,h⟩,by omega⟩))))
end Go.Proofs.YtjiendlfobjanaaGreatDoor
namespace Go.Proofs.YtjiendlfobjanaaGreatDoor
open Go Go.RowKit Go.Proofs Tryz
variable {D:Int} {a b i m s:Nat} {p q:Poly} {x y:Rat}
theorem zLA (h:R.Room x y):rroom x y=true:=decide_eq_true (by unfold R.Room at h;omega)
theorem zLc {p q:Poly} {i:Nat} (hi:i<p.length) (hr:R.MulRoom p q):∀ (n j:Nat) (O:Poly),q.length=j+n→O.length=p.length+q.length→(∀ k,k<p.length+q.length→O.getD k 0=R.partR p q i j k) →
 ∃ O',zFP (p.getD i 0) (q.drop j) (i+j) O=some O'∧O'.length=p.length+q.length∧∀ k,k<p.length+q.length→O'.getD k 0=R.rowsR p q (i+1) k
 | 0,j,O,hn,hO,h=>by
  refine ⟨O,?_,hO,fun k hk => ?_⟩
  · rw [List.drop_of_length_le (by omega)];rfl
  · rw [h k hk,show j=q.length by omega];exact R.part_end p q i k
 | n+1,j,O,hn,hO,h=>by
  obtain ⟨h1,h2⟩:=hr i j hi (by omega);rw [← h (i+j) (by omega)] at h2;obtain ⟨O',e1,e2,e3⟩:=zLc hi hr n (j+1) (O.set (i+j) (O.getD (i+j) 0+p.getD i 0*q.getD j 0)) (by omega) (by rw [List.length_set];exact hO) (R.part_step hO (by omega) h);refine ⟨O',?_,e2,e3⟩;rw [zGB (by omega),zFP,rmul,if_pos (zLA h1)];show ((radd _ _).bind _)=_;rw [radd,if_pos (zLA h2)];exact e1
theorem zMk {p q:Poly} (hr:R.MulRoom p q):∀ (n i:Nat) (O:Poly),p.length=i+n→O.length=p.length+q.length→(∀ k,k<p.length+q.length→O.getD k 0=R.rowsR p q i k) →
 ∃ O',mulL q (p.drop i) i O=some O'∧O'.length=p.length+q.length∧∀ k,k<p.length+q.length→O'.getD k 0=R.rowsR p q p.length k
 | 0,i,O,hn,hO,h=>by
  refine ⟨O,?_,hO,fun k hk => ?_⟩
  · rw [List.drop_of_length_le (by omega)];rfl
  · rw [h k hk,show i=p.length by omega]
 | n+1,i,O,hn,hO,h=>by
  rw [zGB (by omega),mulL];by_cases h0:p.getD i 0=0
  · rw [if_pos h0];exact zMk hr n (i+1) O (by omega) hO fun k hk=>by
     rw [h k hk,R.rowsR,h0];split
     · rw [Rat.zero_mul,Rat.add_zero]
     · rw [Rat.add_zero]
  · rw [if_neg h0];obtain ⟨O',e1,e2,e3⟩:=zLc (show i<p.length by omega) hr q.length 0 O (Nat.zero_add _).symm hO (fun k hk=>by rw [R.part_zero];exact h k hk);rw [List.drop_zero,Nat.add_zero] at e1;rw [e1];exact zMk hr n (i+1) O' (by omega) e2 e3
theorem zPA (hl:p.length+q.length≤4096) (hr:R.MulRoom p q):pmul p q=some (trim (R.mulR p q)):=by
 obtain ⟨O,e1,e2,e3⟩:=zMk hr p.length 0 (List.replicate (p.length+q.length) 0) (by omega) (by simp) fun k hk=>by simp [R.rowsR,hk]
 rw [pmul,if_neg (by omega)];rw [List.drop_zero] at e1;rw [e1,R.mul_end e2 e3];rfl
theorem zMR {p q:Poly} {a b:Nat} {D E:Int} (hp:CHD a D p) (hq:CHD b E q) (k:Nat):∀ i,∃ z:Int,R.rowsR p q i k*((D*E:Int):Rat)=z∧4*z.natAbs≤i*2^(a+b)
 | 0=>⟨0,by rw [R.rowsR,Rat.zero_mul];rfl,by simp⟩
 | i+1=>by
  obtain ⟨z,h1,h2⟩:=zMR hp hq k i;rw [R.rowsR];split
  · obtain ⟨x,x1,x2⟩:=hp.2.2 i;obtain ⟨y,y1,y2⟩:=hq.2.2 (k-i);refine ⟨z+x*y,?_,?_⟩
    · rw [Rat.add_mul,h1,Rat.intCast_add,Rat.intCast_mul,Rat.intCast_mul,← x1,← y1];unfold co;grind
    · have:=zBk x2 y2;have h3:=Int.natAbs_add_le z (x*y);rw [Int.natAbs_mul] at h3;rw [Nat.add_mul];omega
  · refine ⟨z,by rw [Rat.add_zero];exact h1,?_⟩;rw [Nat.add_mul];omega
theorem part_ch {E:Int} (hp:CHD a D p) (hq:CHD b E q) (i j k:Nat):∃ z:Int,R.partR p q i j k*((D*E:Int):Rat)=z∧4*z.natAbs≤(i+1)*2^(a+b):=by
 obtain ⟨z,h1,h2⟩:=zMR hp hq k i;unfold R.partR;split
 · obtain ⟨x,x1,x2⟩:=hp.2.2 i;obtain ⟨y,y1,y2⟩:=hq.2.2 (k-i);refine ⟨z+x*y,?_,?_⟩
   · rw [Rat.add_mul,h1,Rat.intCast_add,Rat.intCast_mul,Rat.intCast_mul,← x1,← y1];unfold co;grind
   · have:=zBk x2 y2;have h3:=Int.natAbs_add_le z (x*y);rw [Int.natAbs_mul] at h3;rw [Nat.add_mul];omega
 · refine ⟨z,by rw [Rat.add_zero];exact h1,?_⟩;rw [Nat.add_mul];omega
theorem co_mulR (p q:Poly) (k:Nat):co (trim (R.mulR p q)) k=if k<p.length+q.length then R.rowsR p q p.length k else 0:=by
 rw [zAr];unfold co R.mulR;by_cases hk:k<p.length+q.length
 · rw [if_pos hk];simp [hk]
 · rw [if_neg hk,List.getD_eq_getElem?_getD,List.getElem?_eq_none (by simp;omega)];rfl
theorem zOc {z:Nat} (h:4*z≤i*2^s) (hi:i≤2^m):2*z≤2^(s+m):=by
 have:i*2^s≤2^m*2^s:=Nat.mul_le_mul_right _ hi;rw [Nat.pow_add,Nat.mul_comm (2^s)];omega
theorem zLV {E:Int} (h1:2*D.natAbs≤2^a) (h2:2*E.natAbs≤2^b):2*(D*E).natAbs≤2^(a+b+m):=by
 have h3:=zBk h1 h2;rw [Int.natAbs_mul];have h4:=Nat.pow_le_pow_right (show 0<2 by decide) (show a+b≤a+b+m by omega);omega
theorem zKb (ha:CH a p) (hb:CH b q) (hm:p.length≤2^m) (hM:a+b+m<200000000000):R.MulRoom p q∧CH (a+b+m) (trim (R.mulR p q)):=by
 obtain ⟨D,hp⟩:=ha;obtain ⟨E,hq⟩:=hb;have hDE:D*E≠0:=Int.mul_ne_zero hp.1 hq.1;refine ⟨fun i j hi hj => ?_,D*E,hDE,zLV hp.2.1 hq.2.1,fun k => ?_⟩
 · have h1:=hp.sz i;have h2:=hq.sz j;unfold co at h1 h2;refine ⟨by unfold R.Room;omega,?_⟩;obtain ⟨z,z1,z2⟩:=part_ch hp hq i j (i+j);have h3:=sz_of hDE z1 (zOc z2 (by omega)) (zLV (m:=m) hp.2.1 hq.2.1);obtain ⟨x,x1,x2⟩:=hp.2.2 i;obtain ⟨y,y1,y2⟩:=hq.2.2 j;have h4:=zBk x2 y2
   have h5:=sz_of (x:=p.getD i 0*q.getD j 0) (z:=x*y) (a:=a+b+m) hDE (by rw [Rat.intCast_mul,Rat.intCast_mul,← x1,← y1];unfold co;grind)
    (by rw [Int.natAbs_mul];have:=Nat.pow_le_pow_right (show 0<2 by decide) (show a+b≤a+b+m by omega);omega) (zLV hp.2.1 hq.2.1)
   unfold R.Room;omega
 · rw [co_mulR];split
   · obtain ⟨z,z1,z2⟩:=zMR hp hq k p.length;exact ⟨z,z1,zOc z2 hm⟩
   · exact ⟨0,by rw [Rat.zero_mul];rfl,by simp⟩
theorem zOT (p q:Poly) (k:Nat):co (trim (R.addR p q)) k=co p k+co q k:=by
 rw [zAr];by_cases hk:k<max p.length q.length
 · unfold co R.addR;simp [hk]
 · rw [co_ge (by simp [R.addR];omega),co_ge (by omega),co_ge (by omega),Rat.add_zero]
theorem add_room (ha:CH a p) (hb:CH b q) (hM:a+b<200000000000):(∀ i,i<max p.length q.length→R.Room (p.getD i 0) (q.getD i 0))∧CH (a+b+1) (trim (R.addR p q))∧padd p q=some (trim (R.addR p q)):=by
 refine ⟨fun i _ => ?_,?_,?_⟩
 · have h1:=ha.sz i;have h2:=hb.sz i;unfold co at h1 h2;unfold R.Room;omega
 · obtain ⟨D,hp⟩:=ha;obtain ⟨E,hq⟩:=hb;refine ⟨D*E,Int.mul_ne_zero hp.1 hq.1,zLV hp.2.1 hq.2.1,fun k => ?_⟩;obtain ⟨x,x1,x2⟩:=hp.2.2 k;obtain ⟨y,y1,y2⟩:=hq.2.2 k;refine ⟨x*E+y*D,?_,?_⟩
   · rw [zOT,Rat.intCast_add,Rat.intCast_mul,Rat.intCast_mul,Rat.intCast_mul,← x1,← y1];grind
   · have h1:=zBk x2 hq.2.1;have h2:=zBk y2 hp.2.1;have h3:=Int.natAbs_add_le (x*E) (y*D);rw [Int.natAbs_mul,Int.natAbs_mul] at h3;rw [Nat.add_comm b a] at h2;rw [Nat.pow_succ];omega
 · obtain ⟨r,hr⟩:=zKT (p:=p) (q:=q) (u:=2*a) (v:=2*b) (by omega) ha.sz hb.sz;obtain ⟨h1,h2⟩:=zDz hr;rw [hr,zGl h1 (zAI _) fun k=>by rw [h2,zOT]]
theorem zNY (p:Poly) (x:Rat) (k:Nat):co (trim (p.map (· * x))) k=co p k*x:=by
 rw [zAr];unfold co;rw [List.getD_eq_getElem?_getD,List.getD_eq_getElem?_getD,List.getElem?_map];cases p[k]? with
 | none=>simp
 | some c=>rfl
theorem scale_room {T:Poly} (ha:CH a p) (hb:CH b T) (hM:a+b<200000000000):(∀ i,i<p.length→R.Room (p.getD i 0) (T.getD m 0))∧CH (a+b) (trim (p.map (· * T.getD m 0)))∧zCA p (T.getD m 0)=some (trim (p.map (· * T.getD m 0))):=by
 refine ⟨fun i _ => ?_,?_,?_⟩
 · have h1:=ha.sz i;have h2:=hb.sz m;unfold co at h1 h2;unfold R.Room;omega
 · obtain ⟨D,hp⟩:=ha;obtain ⟨E,hq⟩:=hb;refine ⟨D*E,Int.mul_ne_zero hp.1 hq.1,zLV (m:=0) hp.2.1 hq.2.1,fun k => ?_⟩;obtain ⟨x,x1,x2⟩:=hp.2.2 k;obtain ⟨y,y1,y2⟩:=hq.2.2 m;refine ⟨x*y,?_,?_⟩
   · rw [zNY,Rat.intCast_mul,Rat.intCast_mul,← x1,← y1];unfold co;grind
   · have h1:=zBk x2 y2;rw [Int.natAbs_mul];omega
 · obtain ⟨r,hr⟩:=zFR (p:=p) (x:=T.getD m 0) (fun k=>by have h1:=ha.sz k;have h2:=hb.sz m;unfold co at h2 ⊢;unfold co at h1;omega);obtain ⟨h1,h2⟩:=zAe hr;rw [hr,zGl h1 (zAI _) fun k=>by rw [h2,zNY]]
theorem ch_one:CH 1 [1]:=⟨1,by decide,by decide,fun k=>by
 cases k with
 | zero=>exact ⟨1,by rw [zAd];exact Rat.one_mul _,by decide⟩
 | succ k=>exact ⟨0,by rw [zAQ,zAh,Rat.zero_mul];rfl,by simp⟩⟩
theorem zPl {p:Poly} {a:Nat} (hp:CH a p) (hl:p.length≤3) (ha:a<1000000):∀ n,n≤20→CH (1+n*(a+6)) (R.powR p n)∧∀ k,k<n→R.MulRoom (R.powR p k) p
 | 0,_=>⟨by rw [Nat.zero_mul];exact ch_one,fun k hk=>by omega⟩
 | n+1,hn=>by
  obtain ⟨h1,h2⟩:=zPl hp hl ha n (by omega);have hlen:=R.powR_len p n;have hb:n*p.length≤19*3:=Nat.mul_le_mul (by omega) hl;have hs:n*(a+6)≤19*(a+6):=Nat.mul_le_mul_right _ (by omega);obtain ⟨h3,h4⟩:=zKb (m:=6) h1 hp (by show _≤64;omega) (by omega);refine ⟨h4.le (by rw [Nat.add_mul];omega),fun k hk => ?_⟩;rcases Nat.lt_succ_iff_lt_or_eq.1 hk with e | e
  · exact h2 k e
  · rw [e];exact h3
end Go.Proofs.YtjiendlfobjanaaGreatDoor
namespace Go.Proofs.YtjiendlfobjanaaGreatDoor
set_option maxRecDepth 10000
open Go Go.RowKit Go.Proofs Tryz
variable {p q:Poly} {x:Rat}
theorem mulR_len:(trim (R.mulR p q)).length≤p.length+q.length:=Nat.le_trans (zAw _) (by simp [R.mulR])
theorem addR_len:(trim (R.addR p q)).length≤max p.length q.length:=Nat.le_trans (zAw _) (by simp [R.addR])
theorem map_len:(trim (p.map (· * x))).length≤p.length:=Nat.le_trans (zAw _) (by simp)
variable {B a m n:Nat} {F:Option Poly}
def hm (T:Poly) (A B:Rat):Nat→Rat→Rat→Rat
 | 0,o,_=>o
 | k+1,o,w=>hm T A B k (o*A+co T k*w) (w*B)
def evk (T:Poly):Nat→Rat→Rat
 | 0,_=>0
 | k+1,y=>evk T k y+co T k*y^k
theorem zPY (T:Poly) {A B:Rat} (hB:B≠0):∀ (k:Nat) (o w:Rat),hm T A B k o w*B=o*A^k*B+w*B^k*evk T k (A/B)
 | 0,o,w=>by rw [hm,evk,Rat.pow_zero,Rat.pow_zero];grind
 | k+1,o,w=>by
  have e:(A/B)^k*B^k=A^k:=by rw [← zFZ];congr 1;grind
  rw [hm,zPY T hB k,evk,Rat.pow_succ,Rat.pow_succ];grind
theorem zNp (a:Rat) (p:Poly) (y:Rat):∀ n,evk (a :: p) (n+1) y=a+y*evk p n y
 | 0=>by rw [evk,evk,evk,Rat.pow_zero,zAd];grind
 | n+1=>by rw [evk,zNp a p y n,zAQ,evk,Rat.pow_succ];grind
theorem zPQ (y:Rat):∀ n,evk [] n y=0
 | 0=>rfl
 | n+1=>by rw [evk,zPQ y n,zAh];grind
theorem zPs (y:Rat):∀ (T:Poly) (n:Nat),T.length≤n→evk T n y=ev T y
 | [],n,_=>zPQ y n
 | a :: p,0,h=>by simp at h
 | a :: p,n+1,h=>by rw [zNp,zPs y p n (by simpa using h),ev]
theorem zLl {T a b:Poly} (x:Rat):∀ {k:Nat} {o w l:Poly},zFS T a b k o w=some l→ev l x=hm T (ev a x) (ev b x) k (ev o x) (ev w x)
 | 0,o,w,l,h=>by cases h;rfl
 | k+1,o,w,l,h=>by
  unfold zFS at h;obtain ⟨m,hm',h⟩:=cbind h;obtain ⟨o',ho,h⟩:=cbind h;obtain ⟨w',hw,h⟩:=cbind h;rw [zLl x h,hm,zMs (zBR hw).2];congr 1;split at ho
  · obtain ⟨s,hs,ho⟩:=cbind ho;rw [zOs (zDz ho).2,zMs (zBR hm').2,zFn (zAe hs).2];show _+ev w x*co T k=_+co T k*ev w x;grind
  · cases ho;rw [zMs (zBR hm').2,show co T k=0 from co_ge (by omega)];grind
theorem zFB {T a b l:Poly} (h:zCm T a b n=some l) (hT:T.length≤n+1) (hB:ev b x≠0):ev l x=ev b x^n*ev T (ev a x/ev b x):=by
 unfold zCm at h;have h1:=zLl x h;have h2:=zPY (trim T) (A:=ev a x) hB (n+1) (ev [] x) (ev [1] x);rw [zPs _ _ _ (Nat.le_trans (zFu T) hT),ev_trim,← h1,Rat.pow_succ] at h2;have e1:ev [1] x=1:=by show (1:Rat)+x*0=1;grind
 have e2:ev [] x=0:=rfl;rw [e1,e2] at h2;have h3:ev l x*ev b x=(ev b x^n*ev T (ev a x/ev b x))*ev b x:=by grind
 grind
theorem zNq (q:Poly):∀ (p:Poly) (k:Nat),p.length+q.length≤k+1→conv p q k=0
 | [],k,_=>zEi q k
 | a :: p,0,h=>by rw [zFV,co_ge (l:=q) (by simp at h;omega)];grind
 | a :: p,k+1,h=>by rw [zES,co_ge (l:=q) (by simp at h;omega),zNq q p k (by simp at h;omega)];grind
theorem zMP {r:Poly} (h:pmul p q=some r) (hq:q.length≤2):r.length≤p.length+1:=zBF (zBR h).1 fun i hi=>by rw [(zBR h).2,zNq q p i (by omega)]
theorem zJP {T a b:Poly} (ha:a.length≤2) (hb:b.length≤2):∀ {k i:Nat} {o w l:Poly},zFS T a b k o w=some l→Trimd o→o.length≤i→w.length≤i+1→Trimd l∧l.length≤k+i
 | 0,i,o,w,l,h,h1,h2,h3=>by cases h;exact ⟨h1,by omega⟩
 | k+1,i,o,w,l,h,h1,h2,h3=>by
  unfold zFS at h;obtain ⟨m,hm',h⟩:=cbind h;obtain ⟨o',ho,h⟩:=cbind h;obtain ⟨w',hw,h⟩:=cbind h;have l1:=zMP hm' ha;have l2:=zMP hw hb;have l3:Trimd o'∧o'.length≤i+1:=by
   split at ho
   · obtain ⟨s,hs,ho⟩:=cbind ho;refine ⟨(zDz ho).1,?_⟩;have l4:s.length≤w.length:=zBF (zAe hs).1 fun i hi=>by rw [(zAe hs).2,co_ge hi];grind
     have:=zKw ho;omega
   · cases ho;exact ⟨(zBR hm').1,by omega⟩
  have:=zJP ha hb h l3.1 (i:=i+1) l3.2 (by omega);exact ⟨this.1,by omega⟩
theorem zEF {T a b l:Poly} (h:zCm T a b n=some l) (ha:a.length≤2) (hb:b.length≤2):Trimd l∧l.length≤n+1:=by
 unfold zCm at h;exact zJP ha hb (i:=0) h (fun m hm=>by simp at hm) (by simp) (by simp)
theorem zIH {T a b:Poly} {n A B:Nat} (hT:CH A T) (ha:CH B a) (hb:CH B b) (la:a.length≤2) (lb:b.length≤2) (hn:n≤20) (hA:A<1000000) (hB:B<100000) :
 ∀ (k i:Nat) (O:Poly),k+i=n+1→O.length≤3*i+50→CH (1+i*(A+21*B+300)) O →
  ∃ l,zFS T a b k O (R.powR b i)=some l∧CH (1+(n+1)*(A+21*B+300)) l
 | 0,i,O,hk,hl,hO=>by
  obtain rfl:i=n+1:=by omega
  exact ⟨O,rfl,hO⟩
 | k+1,i,O,hk,hl,hO=>by
  have hi:i≤20:=by omega
  have hs:i*(A+21*B+300)≤20*(A+21*B+300):=Nat.mul_le_mul_right _ hi;obtain ⟨p1,p2⟩:=zPl hb (by omega) (by omega) i hi;have hs2:i*(B+6)≤20*(B+6):=Nat.mul_le_mul_right _ hi;have hpl:=R.powR_len b i;have hpl2:i*b.length≤i*2:=Nat.mul_le_mul_left i lb;obtain ⟨m1,m2⟩:=zKb (m:=7) hO ha (by show _≤128;omega) (by omega);have e1:=zPA (by omega) m1;obtain ⟨-,s1,s2⟩:=scale_room (m:=k) p1 hT (by omega);obtain ⟨-,a1,a2⟩:=add_room m2 s1 (by omega);obtain ⟨w1,w2⟩:=zKb (m:=7) p1 hb (by show _≤128;omega) (by omega);have e2:=zPA (by omega) w1;have h2:=mulR_len (p:=O) (q:=a);by_cases hkT:k<T.length
  · obtain ⟨l,l1,l2⟩:=zIH hT ha hb la lb hn hA hB k (i+1) _ (by omega) (by
     have h1:=addR_len (p:=trim (R.mulR O a)) (q:=trim ((R.powR b i).map (· * T.getD k 0)))
     have h3:=map_len (p:=R.powR b i) (x:=T.getD k 0);omega) (a1.le (by rw [Nat.add_mul];omega))
    refine ⟨l,?_,l2⟩;rw [zFS,e1];show ((if k<T.length then (zCA (R.powR b i) (T.getD k 0)).bind fun s=>padd _ s else _).bind _)=_;rw [if_pos hkT,s2];show ((padd _ _).bind _)=_;rw [a2];show ((pmul _ _).bind _)=_;rw [e2];exact l1
  · obtain ⟨l,l1,l2⟩:=zIH hT ha hb la lb hn hA hB k (i+1) _ (by omega) (by omega) (m2.le (by rw [Nat.add_mul];omega));refine ⟨l,?_,l2⟩;rw [zFS,e1];show ((if k<T.length then (zCA (R.powR b i) (T.getD k 0)).bind fun s=>padd _ s else _).bind _)=_;rw [if_neg hkT];show ((pmul _ _).bind _)=_;rw [e2];exact l1
theorem zJw {T a b:Poly} {A:Nat} (hT:CH A T) (ha:CH B a) (hb:CH B b) (la:a.length≤2) (lb:b.length≤2) (hn:n≤20) (hA:A<1000000) (hB:B<100000) :
 ∃ l,zCm T a b n=some l∧CH (1+(n+1)*(A+21*B+300)) l :=
 zIH (hT.of_co (zAr T)) ha hb la lb hn hA hB (n+1) 0 [] (Nat.add_zero _) (by simp) ⟨1,by decide,by rw [Nat.zero_mul];decide,fun j=>⟨0,by rw [zAh,Rat.zero_mul];rfl,by simp⟩⟩
def mulD (p:Poly):Poly:=addl p (0 :: p.map (· * (-1)))
theorem mulD_ev (p:Poly) (s:Rat):ev (mulD p) s=ev p s*(1-s):=by
 rw [mulD,zKH,ev,zIa];grind
theorem zMc (p:Poly) (k:Nat):co (mulD p) k=co p k-if k=0 then 0 else co p (k-1):=by
 rw [mulD,zHS];cases k with
 | zero=>rw [zAd];grind
 | succ k=>rw [zAQ,zGT,if_neg (by omega),Nat.add_sub_cancel];grind
theorem zOK:∀ p q:Poly,(addl p q).length=max p.length q.length
 | [],q=>by simp [addl]
 | a :: p,[]=>by simp [addl]
 | a :: p,b :: q=>by simp [addl,zOK p q]
theorem zNm (p:Poly):(mulD p).length=p.length+1:=by
 rw [mulD,zOK];simp
theorem mulD_trimd (h:Trimd p) (h0:p≠[]):Trimd (mulD p):=fun n hn=>by
 rw [zNm] at hn;have hl:=zy h0;have:=h (n-1) (by omega);rw [zMc,co_ge (l:=p) (k:=n) (by omega),if_neg (by omega)];grind
theorem mulD_ch (hl:p.length≤16) (h:CH a (mulD p)):CH (a+4) p:=by
 obtain ⟨D,h1,h2,h3⟩:=h;have key:∀ k,∃ z:Int,co p k*D=z∧2*z.natAbs≤(k+1)*2^a:=by
  intro k
  induction k with
  | zero =>
   obtain ⟨z,z1,z2⟩:=h3 0;rw [zMc,if_pos rfl] at z1;exact ⟨z,by rw [← z1];grind,(by omega:2*z.natAbs≤(0+1)*2^a)⟩
  | succ k ih =>
   obtain ⟨y,y1,y2⟩:=ih;obtain ⟨z,z1,z2⟩:=h3 (k+1);rw [zMc,if_neg (by omega),Nat.add_sub_cancel] at z1;refine ⟨z+y,by rw [Rat.intCast_add,← z1,← y1];grind,?_⟩;have:=Int.natAbs_add_le z y;rw [Nat.add_mul (k+1)];omega
 have h4:2^(a+4)=16*2^a:=by rw [Nat.pow_add];omega
 refine ⟨D,h1,by omega,fun k => ?_⟩;by_cases e:p.length≤k
 · exact ⟨0,by rw [co_ge e,Rat.zero_mul];rfl,by simp⟩
 · obtain ⟨z,z1,z2⟩:=key k;have:=Nat.mul_le_mul_right (2^a) (show k+1≤16 by omega);exact ⟨z,z1,by omega⟩
def itD:Nat→Poly→Poly
 | 0,p=>p
 | j+1,p=>mulD (itD j p)
theorem zOI (p:Poly) (s:Rat):∀ j,ev (itD j p) s=ev p s*(1-s)^j
 | 0=>by rw [itD,Rat.pow_zero,Rat.mul_one]
 | j+1=>by rw [itD,mulD_ev,zOI p s j,Rat.pow_succ,Rat.mul_assoc]
theorem zKS (p:Poly):∀ j,(itD j p).length=p.length+j
 | 0=>rfl
 | j+1=>by rw [itD,zNm,zKS p j];omega
theorem zMB {p:Poly} (h:Trimd p) (h0:p≠[]):∀ j,Trimd (itD j p)
 | 0=>h
 | j+1=>mulD_trimd (zMB h h0 j) fun e=>by
  have h1:=zKS p j;rw [e,List.length_nil] at h1;have h2:=zy h0;omega
theorem zPX {p:Poly} {a:Nat}:∀ (j:Nat),p.length+j≤17→CH a (itD j p)→CH (a+4*j) p
 | 0,_,h=>h
 | j+1,hl,h=>(zPX j (by omega) (mulD_ch (by rw [zKS];omega) h)).le (by omega)
def scl (c:Rat):Poly→Rat→Poly
 | [],_=>[]
 | a :: p,l=>a*l :: scl c p (l*c)
theorem zOt (c s:Rat):∀ (p:Poly) (l:Rat),ev (scl c p l) s=ev p (c*s)*l
 | [],l=>by show (0:Rat)=0*l;grind
 | a :: p,l=>by rw [scl,ev,zOt c s p,ev];grind
theorem zKV (c:Rat):∀ (p:Poly) (l:Rat),(scl c p l).length=p.length
 | [],_=>rfl
 | a :: p,l=>by rw [scl,List.length_cons,zKV c p,List.length_cons]
theorem zHV (c:Rat):∀ (p:Poly) (l:Rat) (k:Nat),co (scl c p l) k=co p k*c^k*l
 | [],l,k=>by rw [scl,zAh];grind
 | a :: p,l,0=>by rw [scl,zAd,zAd,Rat.pow_zero];grind
 | a :: p,l,k+1=>by rw [scl,zAQ,zHV c p,zAQ,Rat.pow_succ];grind
theorem fs1 {s r a b q:Rat} (e:r=a-b*q) (h1:0≤s*r) (h2:0≤s*b*q):0≤s*a:=by subst e;grind
theorem fs2 {s a b q:Rat} (e:a=q*b) (h:0<s*b*q):0<s*a:=by subst e;grind
theorem zLB:∀ (n:Nat) {a b:Poly} {F:Option Poly},PR n a b→fracL n a b=some F→zFx F→∃ s:Rat,(∀ k,0≤s*co a k)∧(∀ k,0≤s*co b k)∧0<s*co a n
 | 0,a,b,F,h,hF,_=>by
  have ht:=h.ta;have hz:∀ k,k≠0→co a k=0:=fun k hk=>co_ge (by rw [h.la];omega);refine ⟨co a 0,fun k => ?_,fun k=>by rw [h.bz (Nat.zero_le _)];grind,sq_pos' ht⟩;by_cases hk:k=0
  · rw [hk];exact zEL _
  · rw [hz k hk];grind
 | n+1,a,b,F,h,hF,hA=>by
  unfold fracL at hF;split at hF
  · cases hF;obtain ⟨l,e,_⟩:=hA;cases e
  · next hreg =>
    have hreg:b.length=n+1:=by rw [h.la] at hreg;omega
    have hbn:co b n≠0:=h.db n hreg;obtain ⟨q,hq,hF⟩:=cbind hF;obtain ⟨m,hm,hF⟩:=cbind hF;obtain ⟨r,hr,hF⟩:=cbind hF;obtain ⟨F',hF',rfl⟩:=cmap hF;have hq:=zGL hq;rw [zBf,zBf,h.la,hreg] at hq;have hq:q=co a (n+1)/co b n:=hq;obtain ⟨r1,r2⟩:=zDx hr;have hrk:∀ k,co r k=co a k-if k=0 then 0 else co b (k-1)*(co a (n+1)/co b n):=fun k=>by rw [r2,(zBR hm).2,zEy,hq]
    obtain ⟨hq0,hA'⟩:=zFg.1 hA;obtain ⟨s,s1,s2,s3⟩:=zLB n (h.step hbn r1 hrk) hF' hA';rw [← hq] at hrk;refine ⟨s,fun k => ?_,s1,?_⟩
    · have e:=hrk k;have:=s2 k;by_cases hk:k=0
      · rw [if_pos hk] at e;exact fs1 (b:=0) (q:=0) (by rw [e];grind) this (by grind)
      · rw [if_neg hk] at e;exact fs1 e this (Rat.mul_nonneg (s1 (k-1)) (Rat.le_of_lt hq0))
    · refine fs2 (q:=q) ?_ (Rat.mul_pos s3 hq0);rw [hq];clear hF hF' hA hA' hq0 hrk;grind
theorem ev_nn {s x:Rat} (hx:0≤x):∀ {p:Poly},(∀ k,0≤s*co p k)→0≤s*ev p x
 | [],_=>by show 0≤s*0;grind
 | a :: p,h=>by
  have h1:=ev_nn hx (p:=p) fun k=>h (k+1);have h2:=Rat.mul_nonneg hx h1;have h3:0≤s*a:=h 0;rw [ev];grind
theorem ev_pp {s x:Rat} (hx:0<x):∀ {p:Poly} (n:Nat),(∀ k,0≤s*co p k)→0<s*co p n→0<s*ev p x
 | [],n,_,h=>by rw [zAh] at h;grind
 | a :: p,0,h,h0=>by
  have h1:=ev_nn (Rat.le_of_lt hx) (p:=p) fun k=>h (k+1);have h2:=Rat.mul_nonneg (Rat.le_of_lt hx) h1;have h3:0<s*a:=h0;rw [ev];grind
 | a :: p,n+1,h,h0=>by
  have h1:=ev_pp hx (p:=p) n (fun k=>h (k+1)) h0;have h2:=Rat.mul_pos hx h1;have h3:0≤s*a:=h 0;rw [ev];grind
theorem form_root (hp:Trimd p) (hn:p.length=n+1) (hF:fracL n (fracA p) (fracB p)=some F) (h:∃ H,HF n (Nof (co p)) H∧PD n H) (hx:0<x):ev p x≠0:=fun e=>by
 obtain ⟨s,s1,s2,s3⟩:=zLB n (zHw hp hn) hF ((zPC hp hn hF).2 h);have hc:∀ k,co p k=co (fracA p) k+co (fracB p) k:=fun k=>by
  rw [zEn,zFl];split<;>grind
 have:=ev_pp (s:=s) hx (p:=p) n (fun k=>by rw [hc];have:=s1 k;have:=s2 k;grind) (by rw [hc];have:=s2 n;grind);rw [e] at this;grind
theorem zOO {p p':Nat→Rat} {u:Rat} (hu:0<u) (e:∀ i,p' i=p i*u) (h:∃ H,HF n (Nof p) H∧PD n H):∃ H,HF n (Nof p') H∧PD n H:=by
 obtain ⟨H,hH,hP⟩:=h;have hu2:=Rat.mul_pos hu hu;refine ⟨fun i j=>H i j*(u*u),⟨fun i j => ?_,fun i j hij=>by rw [hH.out i j hij];grind⟩,fun v hv => ?_⟩
 · have r:=hH.eqn i j;have eN:Nof p' i j=Nof p i j*(u*u):=by
    unfold Nof;rw [e,e];split<;>grind
   rw [eN,← r];split<;>split<;>grind
 · have e1:qf n (fun i j=>H i j*(u*u)) v=qf n H v*(u*u):=by
    unfold qf;rw [← zIR];refine zCx fun i _ => ?_;rw [← zIR];refine zCx fun j _ => ?_;grind
   rw [e1];exact Rat.mul_pos (hP v hv) hu2
theorem routh_counts {r:Int×Int} (hp:Trimd p) (hp0:p≠[]) (hr:zGM p=some r):0≤r.1∧0≤r.2∧r.1+r.2≤(p.length:Int)-1:=by
 obtain ⟨n,hn⟩:∃ n,p.length=n+1:=⟨p.length-1,by have:=zy hp0;omega⟩;unfold zGM at hr;rw [zu hp] at hr;obtain ⟨⟨re,im⟩,hri,hr⟩:=cbind hr;obtain ⟨g,hg,hr⟩:=cbind hr;obtain ⟨ax,hax,hr⟩:=cbind hr;obtain ⟨re',hre,hr⟩:=cbind hr;obtain ⟨im',him,hr⟩:=cbind hr;obtain ⟨L,hL,hr⟩:=cbind hr;cases hr;simp only at hg hre him hL ⊢;obtain ⟨t1,t2,a1,a2⟩:=zKR hri;simp only at t1 t2 a1 a2;obtain ⟨c,d,H,hs⟩:=zKh hp hn t1 t2 a1 a2;have hlen:=H.lP;have hlq:(if n%2=0 then im else re).length≤n:=by rw [H.lQ];exact H.lb
 obtain ⟨g1,g2,g3,g4⟩:=zCp hg t1 t2;have hg0:g≠[]:=g2 (by
  by_cases e:n%2=0
  · rw [if_pos e] at hlen;exact .inl fun h=>by rw [h] at hlen;cases hlen
  · rw [if_neg e] at hlen;exact .inr fun h=>by rw [h] at hlen;cases hlen)
 have hgl:=zy hg0;obtain ⟨T1,T2⟩:=zFK (f:=g.length+1) hax g1 hg0;have T3:=zGg (f:=g.length+1) hax g1 hg0;rw [zu g1];obtain ⟨r1,r2⟩:=zBy hre t1 g1;obtain ⟨i1,i2⟩:=zBy him t2 g1;obtain ⟨x,hx,hL⟩:=cbind hL;obtain ⟨y,hy,hL⟩:=cbind hL;obtain ⟨x1,x2,u,hu,x3⟩:=zAx hx;obtain ⟨y1,y2,v,hv,y3⟩:=zAx hy;change zBe (y.length+2) x y=some L at hL;have htx:Trimd (if decide (im'.length<re'.length)=true then re' else im'):=by split<;>assumption
 have hty:Trimd (if decide (im'.length<re'.length)=true then im' else re'):=by split<;>assumption
 rw [zu htx] at x2;rw [zu hty] at y2;have hmax:max (re'.length:Int) im'.length=x.length∧y.length≤x.length:=by
  rw [x2,y2];by_cases e:im'.length<re'.length
  · simp only [e,decide_true,if_true];omega
  · simp only [e,decide_false,if_false,Bool.false_eq_true];omega
 rw [hmax.1];have hgn:g.length≤n+1:=by
  by_cases e:n%2=0
  · rw [if_pos e] at hlen hlq;by_cases e2:im=[]
    · rw [g4 e2];omega
    · have:=g3 e2;omega
  · rw [if_neg e] at hlen hlq;have:=g3 fun h=>by rw [h] at hlen;cases hlen
    omega
 have hxl:x.length+g.length=n+2:=by
  have h1:(x.length:Int)=max (re'.length:Int) im'.length:=hmax.1.symm;by_cases e:n%2=0
  · rw [if_pos e] at hlen hlq;omega
  · rw [if_neg e] at hlen hlq;omega
 have hdL:=chainL_dif' hL x1 y1 hmax.2;have hx0:x≠[]:=fun e=>by rw [e] at hxl;simp at hxl;omega
 obtain ⟨h1,h2,h3⟩:x≠[] ∧ -((x.length:Int)-1)≤dif L∧dif L≤(x.length:Int)-1:=by
  rcases hdL with ⟨h1,_⟩ | h
  · exact absurd h1 hx0
  · exact h
 have hdd:zAX true L-zAX false L=dif L:=rfl;have hax2:ax≤(g.length:Int)-1:=by
  by_cases e:g.length=1
  · have:=T1 e;omega
  · have:=T2 (by omega);omega
 rw [hdd];generalize hk:(if decide (im'.length<re'.length)=true then (-1:Int) else 1)=k;have hk2:k = -1∨k=1:=by rw [← hk];split<;>simp
 have hturn : -((x.length:Int)-1)≤k*dif L∧k*dif L≤(x.length:Int)-1:=by
  rcases hk2 with e | e<;>rw [e]<;>omega
 generalize k*dif L=T at *;rw [zIA (by omega),zIA (by omega)];omega
def zCi (p:Poly) (n:Nat) (t:Rat):Int:=if 41<(trim p).length then 3 else if n+1<(trim p).length∨40<n∨¬ 0<t then 7 else 0
def zIG (p:Poly) (n:Nat) (t:Rat):Option (Poly×Int):=if zCi p n t≠0 then some ([],zCi p n t) else (rdiv 2 t).bind fun c=>(zCm p [-c,c] [1,1] n).map fun l=>(l,0)
def backS (p:Poly) (n:Nat) (t:Rat):Option (Poly×Int):=if zCi p n t≠0 then some ([],zCi p n t) else (rdiv t 2).bind fun h=>(zCm p [1,h] [1,-h] n).map fun l=>(l,0)
def zJW (q:Poly):Option (Int×Int×Int×Int):=if asked q≠0 then some (0,0,0,asked q) else
 (zCm q [1,1] [1,-1] ((trim q).length-1)).bind fun p=>(routh p).map fun r =>
  let left:Int:=((trim p).length:Int)-1-r.1-r.2.1
  (left,((trim q).length:Int)-1-left-r.1,r.1,0)
theorem zFz (a b x:Rat):ev [a,b] x=a+b*x:=by
 show a+x*(b+x*0)=_;grind
theorem zKx (h:Qt a x) (p:Poly) (hp:∀ k,co p k=x∨co p k = -x∨co p k=1∨co p k=0):CH (a+1) p:=by
 obtain ⟨D,z,h1,h2,h3,h4⟩:=h;refine ⟨D,h1,by rw [Nat.pow_succ];omega,fun k => ?_⟩;rcases hp k with e | e | e | e
 · exact ⟨z,by rw [e];exact h2,by rw [Nat.pow_succ];omega⟩
 · exact ⟨-z,by rw [e,Rat.intCast_neg,← h2];grind,by rw [Int.natAbs_neg,Nat.pow_succ];omega⟩
 · exact ⟨D,by rw [e,Rat.one_mul],by rw [Nat.pow_succ];omega⟩
 · exact ⟨0,by rw [e,Rat.zero_mul];rfl,by simp⟩
theorem zML {a b:Rat} {P:Rat→Prop} (h1:P a) (h2:P b) (h0:P 0) (k:Nat):P (co [a,b] k):=by
 match k with
 | 0=>exact h1
 | 1=>exact h2
 | k+2=>exact h0
theorem zOi {t:Rat} (h:Qt a t):Qt (a+1) (t/2):=by
 obtain ⟨D,z,h1,h2,h3,h4⟩:=h;refine ⟨D*2,z,by omega,?_,?_,?_⟩
 · rw [Rat.intCast_mul,← h2];have:((2:Int):Rat)=2:=rfl;rw [this];grind
 · rw [Int.natAbs_mul,Nat.pow_succ,show (2:Int).natAbs=2 from rfl];omega
 · rw [Nat.pow_succ];omega
theorem qt_two {t:Rat} (ht:t≠0) (h:Qt a t):Qt (a+1) (2/t):=by
 have:=qt_inv (by grind) (zOi h);rwa [show 1/(t/2)=2/t by grind] at this
theorem back_law {x y:Poly} {c h:Rat} (hx:x.length≤n+1) (hh:0<h) (hc:c*h=1) (h1:zCm x [-c,c] [1,1] n=some q) (h2:zCm q [1,h] [1,-h] n=some y) {z:Poly} (hz:zCA x (2^n)=some z):y=z:=by
 obtain ⟨q1,q2⟩:=zEF h1 (by simp) (by simp);obtain ⟨y1,-⟩:=zEF h2 (by simp) (by simp);have hv:(0:Rat)<1/h:=div_pos (by decide) hh;refine zNR y1 (zAe hz).1 (u:=0) (v:=1/h) hv fun s hs1 hs2 => ?_;have hs3:h*s<1:=by
  have:=Rat.mul_pos hh (show 0<1/h-s by grind);have:h*(1/h)=1:=by grind
  grind
 have hB:1-h*s≠0:=by grind
 have e1:ev [1,h] s=1+h*s:=zFz _ _ _;have e2:ev [1,-h] s=1-h*s:=by rw [zFz];grind
 rw [zFB h2 q2 (by rw [e2];exact hB),e1,e2];generalize hw:(1+h*s)/(1-h*s)=w;have hw1:w+1=2/(1-h*s):=by rw [← hw];grind
 have hw2:w-1=2*(h*s)/(1-h*s):=by rw [← hw];grind
 have hw3:2/(1-h*s)≠0:=by grind
 have e3:ev [1,1] w=2/(1-h*s):=by rw [zFz];grind
 have e4:ev [-c,c] w=c*(2*(h*s)/(1-h*s)):=by rw [zFz];grind
 rw [zFB h1 hx (by rw [e3];exact hw3),e3,e4,zFn (zAe hz).2];have e5:c*(2*(h*s)/(1-h*s))/(2/(1-h*s))=s:=by
  have:c*(2*(h*s)/(1-h*s))=s*(2/(1-h*s)):=by grind
  rw [this];grind
 have e6:(1-h*s)^n*(2/(1-h*s))^n=2^n:=by
  rw [← zFZ];congr 1;grind
 rw [e5,← Rat.mul_assoc,e6,Rat.mul_comm]
theorem schur_val {x:Poly} {c:Rat} (hx:x.length≤n+1) (h1:zCm x [-c,c] [1,1] n=some q) (hm:q.length=m+1) (h2:zCm q [1,1] [1,-1] m=some p) {s:Rat} (hs1:0<s) (hs2:s<1) :
 ev (itD (n-m) p) s=ev (scl c x (2^n)) s:=by
 obtain ⟨q1,q2⟩:=zEF h1 (by simp) (by simp);have hB:1-s≠0:=by grind
 have e1:ev [1,1] s=1+s:=by rw [zFz];grind
 have e2:ev [1,-1] s=1-s:=by rw [zFz];grind
 rw [zOI,zOt,zFB h2 (by omega) (by rw [e2];exact hB),e1,e2];generalize hw:(1+s)/(1-s)=w;have hw1:w+1=2/(1-s):=by rw [← hw];grind
 have hw2:w-1=2*s/(1-s):=by rw [← hw];grind
 have hw3:2/(1-s)≠0:=by grind
 have e3:ev [1,1] w=2/(1-s):=by rw [zFz];grind
 have e4:ev [-c,c] w=c*(2*s/(1-s)):=by rw [zFz];grind
 rw [zFB h1 hx (by rw [e3];exact hw3),e3,e4];have e5:c*(2*s/(1-s))/(2/(1-s))=c*s:=by
  have:c*(2*s/(1-s))=c*s*(2/(1-s)):=by grind
  rw [this];grind
 have e6:(1-s)^n*(2/(1-s))^n=2^n:=by
  rw [← zFZ];congr 1;grind
 have e7:(1-s)^n=(1-s)^m*(1-s)^(n-m):=by rw [← zFp];congr 1;omega
 rw [e5,← e6,e7];grind
end Go.Proofs.YtjiendlfobjanaaGreatDoor
namespace Go.Proofs.YtjiendlfobjanaaGreatDoor
open Go Go.RowKit Go.Proofs Tryz
set_option maxRecDepth 10000
set_option maxHeartbeats 2000000
attribute [local irreducible] Runs WPE CallK Ret
variable {N n s t:Nat} {P:Program} {fn:Func} {p:Poly} {u v:Value} {w:World} {ρ:Env}
theorem zNL {t:Rat} (hn:n<1000000) (hp:zO w v p) (hx:IsNum w u t):Ret prog 131 #[v,.int .i64 (n:Int),u] w (fun r _=>r = .int .i64 (zCi p n t)):=by
 obtain ⟨xn,xd,rfl,hxn,hxd⟩:=hx;have hx:IsNum w (.agg #[.bool (decide (t<0)),xn,xd]) t:=⟨_,_,rfl,hxn,hxd⟩;clear hxn hxd;refine J0 26 func131 rfl (rj fun K => ?_);refine K1 (zAA fun b1 w1 hb hE hB1 hs => ?_);have hgb1:w.heap.size≤b1:=by rw [hb];exact E0.size
 replace E0:=E0.trans hE;replace hp:=hp.ext hE;replace hx:=hx.ext hE;clear hE hs hb;refine ag (rm [0,1,5] K ?_);refine zA (zD (zA ?_));have hX:NumAt b1 t _:=⟨_,hB1,rfl,hx⟩;clear hB1 hx;refine rI fun K=>K1 (j2 E0 hp.ext hX.ext hb79 (zNy hp) fun vi w2 E0 hp hX hr => ?_);subst hr;refine ag (rs [0,1,5,7] K ?_);refine K0 rfl ?_ ?_<;>intro hc
 · have h41:41<(trim p).length:=of_decide_eq_true hc;clear hc;refine rj fun K=>ag (rm [6] K ?_);refine zB (zT (zU (zQ ?_)));exact ⟨rfl,_,zg rfl rfl,E0,by rw [show zCi p n t=3 from if_pos h41];rfl⟩
 · have h41:¬ 41<(trim p).length:=of_decide_eq_false hc;clear hc;refine zA ?_;have hmx:(if ((trim p).length:Int)-1<0 then 0 else ((trim p).length:Int)-1)=max (((trim p).length:Int)-1) 0:=by split<;>omega
   have hcs:n+1<(trim p).length∨(¬ n+1<(trim p).length∧40<n)∨(¬ n+1<(trim p).length∧¬ 40<n):=by omega
   rcases hcs with hA | ⟨hA,hC⟩ | ⟨hA,hC⟩
   · skip
     refine rI fun K=>mv (K1 (j2 E0 hp.ext hX.ext hb18 (zCo hp) fun vi w2 E0 hp hX hr => ?_));subst hr;refine K1 (zCG rfl rfl ?_);refine K9 (true) rfl (decide_eq_true (by rw [hmx];omega)) ?_;refine mv (K3 (K3 (pk rfl (mv (K3 (K3 (K3 (K3 (pk rfl (ag (rs [10] K ?_)))))))))));refine wct rfl (rj fun K=>ag (rm [6] K ?_));refine zB (zT (zU (zQ ?_)));exact ⟨rfl,_,zg rfl rfl,E0,by rw [show zCi p n t=7 from by unfold zCi;rw [if_neg h41,if_pos (.inl hA)]];rfl⟩
   · skip
     refine rI fun K=>mv (K1 (j2 E0 hp.ext hX.ext hb18 (zCo hp) fun vi w2 E0 hp hX hr => ?_));subst hr;refine K1 (zCG rfl rfl ?_);refine K9 (false) rfl (decide_eq_false (by rw [hmx];omega)) ?_;refine mv (K7 (K2 (zF (v := .bool (true)) rfl rfl (congrArg (fun z=>some (Value.bool z)) (decide_eq_true (by omega))) (pk rfl (mv (K3 (K3 (K3 (K3 (pk rfl (ag (rs [10] K ?_))))))))))));refine wct rfl (rj fun K=>ag (rm [6] K ?_));refine zB (zT (zU (zQ ?_)));exact ⟨rfl,_,zg rfl rfl,E0,by rw [show zCi p n t=7 from by unfold zCi;rw [if_neg h41,if_pos (.inr (.inl hC))]];rfl⟩
   · skip
     refine rI fun K=>mv (K1 (j2 E0 hp.ext hX.ext hb18 (zCo hp) fun vi w2 E0 hp hX hr => ?_));subst hr;refine K1 (zCG rfl rfl ?_);refine K9 (false) rfl (decide_eq_false (by rw [hmx];omega)) ?_;refine mv (K7 (K2 (zF (v := .bool (false)) rfl rfl (congrArg (fun z=>some (Value.bool z)) (decide_eq_false (by omega))) (pk rfl (mv (K2 (zR rfl hX fun v21 N21=>K2 (zLC N21 fun v22 w4 hE N22 => ?_))))))));replace E0:=E0.trans hE;clear hE N21;refine K2 (j0 E0 hb99 (above_ok N22) fun vi w2 E0 hr => ?_);subst hr
     try clear N22
     refine K2 (zr rfl (pk rfl (ag (rs [10] K ?_))));refine K0 rfl ?_ ?_<;>intro hc
     · have ht:¬ 0<t:=by simpa using hc
       clear hc;refine rj fun K=>ag (rm [6] K ?_);refine zB (zT (zU (zQ ?_)));exact ⟨rfl,_,zg rfl rfl,E0,by rw [show zCi p n t=7 from by unfold zCi;rw [if_neg h41,if_pos (.inr (.inr ht))]];rfl⟩
     · have ht:0<t:=by simpa using hc
       clear hc;refine zm (zS (zN (rj fun K=>ag (rm [6] K ?_))));refine zB (zQ ?_);exact ⟨rfl,_,zg rfl rfl,E0,by rw [show zCi p n t=0 from by unfold zCi;rw [if_neg h41,if_neg (fun e=>e.elim (fun e=>hA e) (fun e=>e.elim (fun e=>hC e) (fun e=>e ht)))]];rfl⟩
theorem zJC {t:Rat} {R:Poly×Int} (hn:n<1000000) (hp:zO w v p) (hx:IsNum w u t) (h:zIG p n t=some R):Ret prog 53 #[v,.int .i64 (n:Int),u] w (fun r w'=>∃ y,r = .tuple #[y,.int .i64 R.2]∧zO w' y R.1):=by
 obtain ⟨xn,xd,rfl,hxn,hxd⟩:=hx;have hx:IsNum w (.agg #[.bool (decide (t<0)),xn,xd]) t:=⟨_,_,rfl,hxn,hxd⟩;clear hxn hxd;refine J0 30 func53 rfl (rj fun K => ?_);refine K1 (zAA fun b1 w1 hb hE hB1 hs => ?_);have hgb1:w.heap.size≤b1:=by rw [hb];exact E0.size
 replace E0:=E0.trans hE;replace hp:=hp.ext hE;replace hx:=hx.ext hE;clear hE hs hb;refine ag (ag (rm [0,1,5] K ?_));refine zA (zA ?_);have hX:NumAt b1 t _:=⟨_,hB1,rfl,hx⟩;clear hB1 hx;refine rI fun K=>mv (K1 (zR rfl hX fun v12 N12=>K1 (j2 E0 hp.ext hX.ext hb131 (zNL hn hp N12) fun vi w2 E0 hp hX hr => ?_)));subst hr
 try clear N12
 refine ag (rs [0,1,5,8] K ?_);refine zA ?_;by_cases hz:zCi p n t=0
 · rw [hz];unfold zIG at h;rw [hz,if_neg (by decide)] at h;obtain ⟨c,hc1,h⟩:=bind_some h;obtain ⟨l,hl,rfl⟩:=map_some h;obtain ⟨hrr,hce⟩:=zDC hc1;clear hc1;refine rI fun K=>K8 rfl (rs [0,1,5,8,15] K ?_);refine wcf rfl (sk (zA ?_));have E00:=E0;have hX0:=E0.self;obtain ⟨SZ,hSZ⟩:=E0.szE;have hp1:=hp;refine zDF 4 [([],none),([(5,none)],none),([(17,some 1),(18,some 0)],none),([],none)] mixed (by kernel_rfl) (by kernel_rfl) (by kernel_rfl) (by kernel_rfl) (by kernel_rfl) fun K hK=>dcp (fun v w'=>IsNum w' v (2)) (fun _ _ _ _ hx h=>h.ext hx.toExt) (fun σ wx hE hk=>zH hb38 (CallK.of_ret (zDO (n:=2) (by decide) (by decide)) fun v w2 hX hr=>⟨hX,(by exact hr)⟩) rfl) (dcp (fun v w'=>IsNum w' v (t)) (fun _ _ _ _ hx h=>h.ext hx.toExt) (fun σ wx hE hk=>zR hk.1 (hX.ext hE) fun v h=>⟨Ext.refl _,h⟩) ?_);refine dcp (fun v w'=>IsNum w' v (c)) (fun _ _ _ _ hx h=>h.ext hx.toExt) (fun σ wx hE hk=>zH hb69 (CallK.of_ret (zHv hk.1 hk.2.1 hrr) fun v w2 hX hr=>⟨hX,(by rw [hce];exact hr)⟩) rfl) ?_;refine dcp (fun v w'=>∃ b,v = .pointer (some ⟨b,0,none⟩)∧Blk w' b 37 [.bool false,.slice none 0 0,.slice none 0 0]∧SZ≤b) (fun _ _ _ _ hx h=>(let ⟨b,e,hB,hg⟩:=h;⟨b,e,hB.ext hx.toExt,hg⟩)) (fun σ wx hE hk=>zd zAa fun b w2 hb hY hB hs=>⟨hY,b,rfl,hB,(by rw [hb,hSZ];exact (hX0.trans hE).size)⟩) ?_;refine zBW (hK _ fun wq hE => ?_)
   rintro v17 N17 v18 N18 v19 N19 v9 N9;refine zn ?_;replace E0:=E0.trans hE;replace hp:=hp.ext hE;replace hX:=hX.ext hE;replace hX0:=hX0.ext hE;clear hE;obtain ⟨gb,rfl,hBg,hgg⟩:=N9;refine K1 (zK rfl N19 (Cell3.of hBg rfl) fun _ w9 hU hC => ?_);have hgw:=E00.size;have hE2:=hX0.upd hU (by omega);replace E0:=E0.upd hU (by omega);replace hp:=hp1.ext hE2;clear hX0 hU hBg N19 hX hp1 E00;refine zFr (zN (K5 [0,1,9] ?_))
   refine zA (zAY [([(0,none)],none),([(9,none)],none),([(21,some 0)],none),([(9,none)],none),([(22,some 1),(23,some 0)],none),([],none),([],none),([(25,some 1),(26,some 0)],none),([(1,none)],none),([(20,some 8),(24,some 4),(27,some 1),(28,some 0)],none),([(29,some 0)],none),([],none)] mixed (by kernel_rfl) (by kernel_rfl) (by kernel_rfl) fun K hK=>dvp (fun σ wx hE hk=>zC ⟨Ext.refl _,hk.1⟩) (dcp (fun v w'=>IsNum w' v (c)) (fun _ _ _ _ hx h=>h.ext hx.toExt) (fun σ wx hE hk=>zR hk.1 (hC.ext hE) fun v h=>⟨Ext.refl _,h⟩) (dcp (fun v w'=>IsNum w' v (-c)) (fun _ _ _ _ hx h=>h.ext hx.toExt) (fun σ wx hE hk=>zH hb132 (CallK.of_ret (zNn hk.1) fun v w2 hX hr=>⟨hX,hr⟩) rfl) (dcp (fun v w'=>IsNum w' v (c)) (fun _ _ _ _ hx h=>h.ext hx.toExt) (fun σ wx hE hk=>zR hk.1 (hC.ext hE) fun v h=>⟨Ext.refl _,h⟩) (dcp (fun v w'=>zO w' v ([-c,c])) (fun _ _ _ _ hx h=>h.ext hx.toExt) (fun σ wx hE hk=>zEW hk.1 hk.2.1 fun v w2 hX h=>⟨hX,h⟩) (dcp (fun v w'=>IsNum w' v (1)) (fun _ _ _ _ hx h=>h.ext hx.toExt) (fun σ wx hE hk=>zH hb100 (CallK.of_ret (zEs) fun v w2 hX hr=>⟨hX,hr⟩) rfl) (dcp (fun v w'=>IsNum w' v (1)) (fun _ _ _ _ hx h=>h.ext hx.toExt) (fun σ wx hE hk=>zH hb100 (CallK.of_ret (zEs) fun v w2 hX hr=>⟨hX,hr⟩) rfl) (dcp (fun v w'=>zO w' v ([1,1])) (fun _ _ _ _ hx h=>h.ext hx.toExt) (fun σ wx hE hk=>zEW hk.1 hk.2.1 fun v w2 hX h=>⟨hX,h⟩) (dvp (fun σ wx hE hk=>zC ⟨Ext.refl _,hk.1⟩) (dcp (fun v w'=>zO w' v (l)) (fun _ _ _ _ hx h=>h.ext hx.toExt) (fun σ wx hE hk=>zH hb127 (CallK.eq4 rfl rfl rfl hk.2.2.2.1 (CallK.of_ret (zKm (n:=n) rfl (zO.of_eq hk.1 (hp.ext hE)) hk.2.1 hk.2.2.1 hn hl) fun v w2 hX hr=>⟨hX,hr⟩)) rfl) (dcp (fun v w'=>zO w' v (l)) (fun _ _ _ _ hx h=>h.ext hx.toExt) (fun σ wx hE hk=>zZ ⟨Ext.refl _,hk.1⟩) (dvp (fun σ wx hE hk=>zZ ⟨Ext.refl _,rfl⟩) (zBW (hK _ fun wq hE => ?_))))))))))))))
   rintro _ rfl v21 N21 v22 N22 v23 N23 v24 N24 v25 N25 v26 N26 v27 N27 _ rfl v29 N29 v6 N6 _ rfl;refine zn ?_;replace E0:=E0.trans hE;replace hp:=hp.ext hE;replace hC:=hC.ext hE;clear hE;refine zN (K5 [6,7] ?_);exact zB (zQ ⟨rfl,_,zo rfl rfl rfl,E0,_,rfl,N6⟩)
 · unfold zIG at h;rw [if_pos hz] at h;obtain rfl:=Option.some.inj h;refine rI fun K=>K9 (true) rfl (by simpa using hz) (rs [0,1,5,8,15] K ?_);refine wct rfl (rJ fun K=>ag (ag (rm [6,7] K ?_)));exact zB (zU (zQ ⟨rfl,_,zo rfl rfl rfl,E0,_,rfl,zO.nil⟩))
theorem Back_ok {t:Rat} {R:Poly×Int} (hn:n<1000000) (hp:zO w v p) (hx:IsNum w u t) (h:backS p n t=some R):Ret prog 54 #[v,.int .i64 (n:Int),u] w (fun r w'=>∃ y,r = .tuple #[y,.int .i64 R.2]∧zO w' y R.1):=by
 obtain ⟨xn,xd,rfl,hxn,hxd⟩:=hx;have hx:IsNum w (.agg #[.bool (decide (t<0)),xn,xd]) t:=⟨_,_,rfl,hxn,hxd⟩;clear hxn hxd;refine J0 30 func54 rfl (rj fun K => ?_);refine K1 (zAA fun b1 w1 hb hE hB1 hs => ?_);have hgb1:w.heap.size≤b1:=by rw [hb];exact E0.size
 replace E0:=E0.trans hE;replace hp:=hp.ext hE;replace hx:=hx.ext hE;clear hE hs hb;refine ag (ag (rm [0,1,5] K ?_));refine zA (zA ?_);have hX:NumAt b1 t _:=⟨_,hB1,rfl,hx⟩;clear hB1 hx;refine rI fun K=>mv (K1 (zR rfl hX fun v12 N12=>K1 (j2 E0 hp.ext hX.ext hb131 (zNL hn hp N12) fun vi w2 E0 hp hX hr => ?_)));subst hr
 try clear N12
 refine ag (rs [0,1,5,8] K ?_);refine zA ?_;by_cases hz:zCi p n t=0
 · rw [hz];unfold backS at h;rw [hz,if_neg (by decide)] at h;obtain ⟨c,hc1,h⟩:=bind_some h;obtain ⟨l,hl,rfl⟩:=map_some h;obtain ⟨hrr,hce⟩:=zDC hc1;clear hc1;refine rI fun K=>K8 rfl (rs [0,1,5,8,15] K ?_);refine wcf rfl (sk (zA ?_));have E00:=E0;have hX0:=E0.self;obtain ⟨SZ,hSZ⟩:=E0.szE;have hp1:=hp;refine zDF 4 [([(5,none)],none),([],none),([(17,some 1),(18,some 0)],none),([],none)] mixed (by kernel_rfl) (by kernel_rfl) (by kernel_rfl) (by kernel_rfl) (by kernel_rfl) fun K hK=>dcp (fun v w'=>IsNum w' v (t)) (fun _ _ _ _ hx h=>h.ext hx.toExt) (fun σ wx hE hk=>zR hk.1 (hX.ext hE) fun v h=>⟨Ext.refl _,h⟩) (dcp (fun v w'=>IsNum w' v (2)) (fun _ _ _ _ hx h=>h.ext hx.toExt) (fun σ wx hE hk=>zH hb38 (CallK.of_ret (zDO (n:=2) (by decide) (by decide)) fun v w2 hX hr=>⟨hX,(by exact hr)⟩) rfl) ?_);refine dcp (fun v w'=>IsNum w' v (c)) (fun _ _ _ _ hx h=>h.ext hx.toExt) (fun σ wx hE hk=>zH hb69 (CallK.of_ret (zHv hk.1 hk.2.1 hrr) fun v w2 hX hr=>⟨hX,(by rw [hce];exact hr)⟩) rfl) ?_;refine dcp (fun v w'=>∃ b,v = .pointer (some ⟨b,0,none⟩)∧Blk w' b 37 [.bool false,.slice none 0 0,.slice none 0 0]∧SZ≤b) (fun _ _ _ _ hx h=>(let ⟨b,e,hB,hg⟩:=h;⟨b,e,hB.ext hx.toExt,hg⟩)) (fun σ wx hE hk=>zd zAa fun b w2 hb hY hB hs=>⟨hY,b,rfl,hB,(by rw [hb,hSZ];exact (hX0.trans hE).size)⟩) ?_;refine zBW (hK _ fun wq hE => ?_)
   rintro v17 N17 v18 N18 v19 N19 v9 N9;refine zn ?_;replace E0:=E0.trans hE;replace hp:=hp.ext hE;replace hX:=hX.ext hE;replace hX0:=hX0.ext hE;clear hE;obtain ⟨gb,rfl,hBg,hgg⟩:=N9;refine K1 (zK rfl N19 (Cell3.of hBg rfl) fun _ w9 hU hC => ?_);have hgw:=E00.size;have hE2:=hX0.upd hU (by omega);replace E0:=E0.upd hU (by omega);replace hp:=hp1.ext hE2;clear hX0 hU hBg N19 hX hp1 E00;refine zFr (zN (K5 [0,1,9] ?_))
   refine zA (zAY [([(0,none)],none),([],none),([(9,none)],none),([(21,some 1),(22,some 0)],none),([],none),([(9,none)],none),([(25,some 0)],none),([(24,some 2),(26,some 0)],none),([(1,none)],none),([(20,some 8),(23,some 5),(27,some 1),(28,some 0)],none),([(29,some 0)],none),([],none)] mixed (by kernel_rfl) (by kernel_rfl) (by kernel_rfl) fun K hK=>dvp (fun σ wx hE hk=>zC ⟨Ext.refl _,hk.1⟩) (dcp (fun v w'=>IsNum w' v (1)) (fun _ _ _ _ hx h=>h.ext hx.toExt) (fun σ wx hE hk=>zH hb100 (CallK.of_ret (zEs) fun v w2 hX hr=>⟨hX,hr⟩) rfl) (dcp (fun v w'=>IsNum w' v (c)) (fun _ _ _ _ hx h=>h.ext hx.toExt) (fun σ wx hE hk=>zR hk.1 (hC.ext hE) fun v h=>⟨Ext.refl _,h⟩) (dcp (fun v w'=>zO w' v ([1,c])) (fun _ _ _ _ hx h=>h.ext hx.toExt) (fun σ wx hE hk=>zEW hk.1 hk.2.1 fun v w2 hX h=>⟨hX,h⟩) (dcp (fun v w'=>IsNum w' v (1)) (fun _ _ _ _ hx h=>h.ext hx.toExt) (fun σ wx hE hk=>zH hb100 (CallK.of_ret (zEs) fun v w2 hX hr=>⟨hX,hr⟩) rfl) (dcp (fun v w'=>IsNum w' v (c)) (fun _ _ _ _ hx h=>h.ext hx.toExt) (fun σ wx hE hk=>zR hk.1 (hC.ext hE) fun v h=>⟨Ext.refl _,h⟩) (dcp (fun v w'=>IsNum w' v (-c)) (fun _ _ _ _ hx h=>h.ext hx.toExt) (fun σ wx hE hk=>zH hb132 (CallK.of_ret (zNn hk.1) fun v w2 hX hr=>⟨hX,hr⟩) rfl) (dcp (fun v w'=>zO w' v ([1,-c])) (fun _ _ _ _ hx h=>h.ext hx.toExt) (fun σ wx hE hk=>zEW hk.1 hk.2.1 fun v w2 hX h=>⟨hX,h⟩) (dvp (fun σ wx hE hk=>zC ⟨Ext.refl _,hk.1⟩) (dcp (fun v w'=>zO w' v (l)) (fun _ _ _ _ hx h=>h.ext hx.toExt) (fun σ wx hE hk=>zH hb127 (CallK.eq4 rfl rfl rfl hk.2.2.2.1 (CallK.of_ret (zKm (n:=n) rfl (zO.of_eq hk.1 (hp.ext hE)) hk.2.1 hk.2.2.1 hn hl) fun v w2 hX hr=>⟨hX,hr⟩)) rfl) (dcp (fun v w'=>zO w' v (l)) (fun _ _ _ _ hx h=>h.ext hx.toExt) (fun σ wx hE hk=>zZ ⟨Ext.refl _,hk.1⟩) (dvp (fun σ wx hE hk=>zZ ⟨Ext.refl _,rfl⟩) (zBW (hK _ fun wq hE => ?_))))))))))))))
   rintro _ rfl v21 N21 v22 N22 v23 N23 v24 N24 v25 N25 v26 N26 v27 N27 _ rfl v29 N29 v6 N6 _ rfl;refine zn ?_;replace E0:=E0.trans hE;replace hp:=hp.ext hE;replace hC:=hC.ext hE;clear hE;refine zN (K5 [6,7] ?_);exact zB (zQ ⟨rfl,_,zo rfl rfl rfl,E0,_,rfl,N6⟩)
 · unfold backS at h;rw [if_pos hz] at h;obtain rfl:=Option.some.inj h;refine rI fun K=>K9 (true) rfl (by simpa using hz) (rs [0,1,5,8,15] K ?_);refine wct rfl (rJ fun K=>ag (ag (rm [6,7] K ?_)));exact zB (zU (zQ ⟨rfl,_,zo rfl rfl rfl,E0,_,rfl,zO.nil⟩))
theorem asked_pos (h:asked p=0):1≤(trim p).length:=by
 unfold asked at h;split at h
 · cases h
 · split at h
   · cases h
   · next h1 h2=>have:=List.length_pos_iff.2 h2;omega
theorem asked_le (h:asked p=0):(trim p).length≤41:=by
 unfold asked at h;split at h
 · cases h
 · omega
theorem zJK {u q:Nat} (h:fn.results = #[.tmp t,.tmp u,.tmp s,.tmp q]) (hd:(dom ρ).contains t=true) (hu:(dom ρ).contains u=true) (hs:(dom ρ).contains s=true) (hq:(dom ρ).contains q=true):Gives P fn N ρ w (.tuple #[look1 ρ t,look1 ρ u,look1 ρ s,look1 ρ q]):=fun a hf=>by
 rw [show (results fn a.tmps).run P w = .ok (.tuple #[a.tmps.getD t undef,a.tmps.getD u undef,a.tmps.getD s undef,a.tmps.getD q undef]) w from by simp [results,h],hf.at_ t (by simpa using hd),hf.at_ u (by simpa using hu),hf.at_ s (by simpa using hs),hf.at_ q (by simpa using hq)]
theorem poly_len (h:zO w v p):p.length≤4096:=by
 obtain ⟨pp,pc,e,h1,h2,h3⟩:=h;exact h3
theorem zNM {R:Int×Int×Int×Int} (hp:zO w v p) (h:zJW p=some R) (hb1:0≤R.1) (hb2:R.1≤1000000) (hb3:0≤R.2.2.1) (hb4:R.2.2.1≤1000000):Ret prog 57 #[v] w (fun r _=>r = .tuple #[.int .i64 R.1,.int .i64 R.2.1,.int .i64 R.2.2.1,.int .i64 R.2.2.2]):=by
 refine J0 48 func57 rfl (rj fun K=>ag (ag (ag (ag (rm [0] K ?_)))));refine zA (rJ fun K=>K1 (j1 E0 hp.ext hb67 (zLG hp) fun vi w2 E0 hp hr => ?_));subst hr;refine ag (rm [0,6] K ?_);refine zA ?_;by_cases hz:asked p=0
 · rw [hz];unfold zJW at h;rw [hz,if_neg (by decide)] at h;obtain ⟨l,hl,h⟩:=bind_some h;obtain ⟨RR,hR0,h⟩:=map_some h;obtain rfl:=h;replace hb1:0≤((trim l).length:Int)-1-RR.1-RR.2.1:=hb1;replace hb2:((trim l).length:Int)-1-RR.1-RR.2.1≤1000000:=hb2;replace hb3:0≤RR.1:=hb3;replace hb4:RR.1≤1000000:=hb4;have hl1:1≤(trim p).length:=asked_pos hz;have hl41:=asked_le hz;have hnn:((trim p).length:Int)-1=(((trim p).length-1:Nat):Int):=by omega
   refine rI fun K=>K8 rfl (rs [0,6,16] K ?_);refine wcf rfl (sk (rJ fun K=>K1 (j1 E0 hp.ext hb18 (zCo hp) fun vi w2 E0 hp hr => ?_)));subst hr;refine ag (rm [0,7] K ?_);refine rJ fun K=>K1 (j1 E0 hp.ext hb100 (zEs) fun v21 w2 E0 hp N21=>K1 (j2 E0 hp.ext N21.ext hb100 (zEs) fun v22 w2 E0 hp N21 N22=>K1 (zEW N21 N22 fun v23 w4 hE N23 => ?_)));replace E0:=E0.trans hE;replace hp:=hp.ext hE;clear hE N21 N22;refine K1 (j2 E0 hp.ext N23.ext hb100 (zEs) fun v24 w2 E0 hp N23 N24=>K1 (j3 E0 hp.ext N23.ext N24.ext hb38 (zDO (n := -1) (by decide) (by decide)) fun v25 w2 E0 hp N23 N24 N25 => ?_));replace N25:IsNum _ v25 (-1):=N25;refine K1 (zEW N24 N25 fun v26 w4 hE N26 => ?_);replace E0:=E0.trans hE;replace hp:=hp.ext hE;replace N23:=N23.ext hE;clear hE N24 N25;refine mv (K1 (j0 E0 hb127 (zKm (n:=(trim p).length-1) hnn hp N23 N26 (by omega) hl) fun v28 w2 E0 N28 => ?_));clear N23 N26 hp;refine ag (rm [7,8] K ?_);refine rJ fun K=>K1 (j1 E0 N28.ext hb72 (zKP N28 hR0) fun v31 w2 E0 N28 hr => ?_);obtain ⟨rfl,hr1,hr2⟩:=hr;refine mv (xt rfl (xt rfl (xt rfl (ag (ag (ag (rm [7,8,9,10] K ?_)))))));refine rJ fun K=>K1 (j0 E0 hb18 (zCo N28) fun vi w2 E0 hr => ?_);subst hr;have hll:=poly_len N28;have htl:=zAw l
   refine mv (K1 (zF (v := .int .i64 (((trim l).length:Int)-1-RR.1)) rfl rfl (congrArg (fun z=>some (Value.int .i64 z)) (zj (by omega) (by omega))) (mv (K1 (zF (v := .int .i64 (((trim l).length:Int)-1-RR.1-RR.2.1)) rfl rfl (congrArg (fun z=>some (Value.int .i64 z)) (zj (by omega) (by omega))) (ag (rm [7,9,12] K ?_)))))));refine rJ fun K=>mv (mv (K1 (zF (v := .int .i64 (((trim p).length:Int)-1-(((trim l).length:Int)-1-RR.1-RR.2.1))) rfl rfl (congrArg (fun z=>some (Value.int .i64 z)) (zj (by omega) (by omega))) (mv (K1 (zF (v := .int .i64 (((trim p).length:Int)-1-(((trim l).length:Int)-1-RR.1-RR.2.1)-RR.1)) rfl rfl (congrArg (fun z=>some (Value.int .i64 z)) (zj (by omega) (by omega))) (mv (ag (ag (ag (ag (rm [2,3,4,5] K ?_))))))))))));exact zB (zQ ⟨rfl,_,zJK rfl rfl rfl rfl rfl,E0,rfl⟩)
 · unfold zJW at h;rw [if_pos hz] at h;obtain rfl:=Option.some.inj h;refine rI fun K=>K9 (true) rfl (by simpa using hz) (rs [0,6,16] K ?_);refine wct rfl (rJ fun K=>ag (ag (ag (ag (rm [2,3,4,5] K ?_)))));exact zB (zU (zQ ⟨rfl,_,zJK rfl rfl rfl rfl rfl,E0,rfl⟩))
theorem pow2_num (n:Nat):qOf false (2^n) 1=(2:Rat)^n:=by
 have h:=zMf ((2:Int)^n);have h1:¬ ((2:Int)^n<0):=by have:(0:Int)<2^n:=Int.pow_pos (by decide);omega
 rw [decide_eq_false h1,Int.natAbs_pow,Rat.intCast_pow] at h;exact h
theorem zOu (h:n≤60):Fit (2^n):=by
 have h1:2^n≤2^60:=Nat.pow_le_pow_right (by decide) h;exact zKd (by omega)
theorem Pow2_ok (hn:n≤60) (hx:IsNum w v 2):Ret prog 55 #[v,.int .i64 (n:Int)] w (fun r w'=>∃ u,r = .tuple #[u,.int .i64 0]∧IsNum w' u (2^n)):=by
 obtain ⟨xn,xd,rfl,hxn,hxd⟩:=hx;have h20:decide ((2:Rat)<0)=false:=by decide
 have hx:IsNum w (.agg #[.bool false,xn,xd]) 2:=⟨_,_,by rw [h20],hxn,hxd⟩;rw [h20];replace hxn:IsW w xn 2:=hxn;clear hxd;have E0:Ext w w:=Ext.refl w;refine J0 62 func55 rfl (rj fun K => ?_);refine K1 (zAA fun b1 w1 hb hE hB1 hs => ?_);have hgb1:w.heap.size≤b1:=by rw [hb];exact E0.size
 replace E0:=E0.trans hE;replace hx:=hx.ext hE;replace hxn:=hxn.ext hE;clear hE hs hb;refine K1 (zd zAa fun b2 w2 hb hE hB2 hs => ?_);have hgb2:w.heap.size≤b2:=by rw [hb];exact E0.size
 have ne_b1_b2:b1≠b2:=by have:=hB1.lt;omega
 replace E0:=E0.trans hE;replace hx:=hx.ext hE;replace hxn:=hxn.ext hE;replace hB1:=hB1.ext hE;clear hE hs hb;refine ag (rm [1,2,4] K ?_);refine zA (zD (rJ fun K=>K9 (false) rfl (decide_eq_false (by omega)) (mv (K7 (K2 (zF (v := .bool (false)) rfl rfl (congrArg (fun z=>some (Value.bool z)) (decide_eq_false (by omega))) (pk rfl (ag (rm [1,2,4,8] K ?_)))))))));refine wcf rfl (rJ fun K=>K9 (false) rfl (decide_eq_false (by omega)) (mv (K3 (K3 (K3 (K3 (pk rfl (ag (rm [1,2,4,16] K ?_)))))))));refine wcf rfl (rJ fun K=>K9 (false) rfl (decide_eq_false (by omega)) (ag (rm [1,2,4,26] K ?_)));refine wcf rfl (zm (zS (zN (zA ?_))));replace hB1:Blk _ b1 37 [.bool false,xn,xd]:=hB1;replace hB2:Blk _ b2 37 [.bool false,.slice none 0 0,.slice none 0 0]:=hB2;refine K6 fun K=>K1 (j4 E0 hx.ext hxn.ext hB1.ext hB2.ext hb106 (zFy _) fun v38 w2 E0 hx hxn hB1 hB2 hw1=>K1 (j5 E0 hx.ext hxn.ext hB1.ext hB2.ext hw1.ext hb106 (zFy _) fun v39 w2 E0 hx hxn hB1 hB2 hw1 hw2=>ag (ag (rs [1,2,4,6,7] K ?_))));refine zA (rJ fun K=>mv (rm [1,2,4,6,7,40,41] K ?_))
 refine zD (ze (X:=Nat) (fun i ρ w'=>∃ vp vq,Keep ρ [(1,.int .i64 (n:Int)),(2,.pointer (some ⟨b1,0,none⟩)),(4,.pointer (some ⟨b2,0,none⟩)),(6,vp),(7,vq),(40,.int .i64 (n:Int)),(41,.int .i64 ((i:Nat):Int))]∧i≤n∧Ext w w'∧Blk w' b1 37 [.bool false,xn,xd]∧Blk w' b2 37 [.bool false,.slice none 0 0,.slice none 0 0]∧IsNum w' (.agg #[.bool false,xn,xd]) 2∧IsW w' xn 2∧IsW w' vp (2^i)∧IsW w' vq 1) (fun i=>n-i) 0 ⟨_,_,(kp rfl),Nat.zero_le _,E0,hB1,hB2,hx,hxn,hw1,hw2⟩ ?_);clear E0 hB1 hB2 hx hxn hw1 hw2;rintro i ρ1 w1 ⟨vp,vq,hk,hil,E0,hB1,hB2,hx,hxn,hP,hQ⟩;refine wpe_k _ hk ?_;clear hk ρ1;refine rj fun K=>K8 rfl (rm [1,2,4,6,7,40,41,42] K ?_);refine zA ?_;refine K0 rfl ?_ ?_<;>intro hc
 · have hlt:i<n:=t_lt hc;clear hc;refine sk (zA (zD (zAY [([(6,none)],none),([(2,none)],none),([(44,some 0)],none),([(43,some 2),(45,some 0)],none),([(7,none)],none),([(2,none)],none),([(48,some 0)],none),([(47,some 2),(49,some 0)],none),([(46,some 4)],none),([(50,some 1)],none)] mixed (by kernel_rfl) (by kernel_rfl) (by kernel_rfl) fun K hK=>dcp (fun v w'=>IsW w' v (2^i)) (fun _ _ _ _ hx h=>h.ext hx.toExt) (fun σ wx hE hk=>zC ⟨Ext.refl _,IsW.of_eq hk.1 (hP.ext hE)⟩) (dvp (fun σ wx hE hk=>zJ zCS hk.1 ⟨Ext.refl _,rfl⟩) (dvp (fun σ wx hE hk=>zI zAn hk.1 (hB1.ext hE) rfl ⟨Ext.refl _,rfl⟩) ?_)))));refine dcp (fun v w'=>IsW w' v (2^(i+1))) (fun _ _ _ _ hx h=>h.ext hx.toExt) (fun σ wx hE hk=>zH hb103 (CallK.of_ret (zEU hk.1 (IsW.of_eq hk.2.1 (hxn.ext hE)) (zOu (by omega)) (zKd (by decide))) fun v w2 hX hr=>⟨hX,(by rw [Nat.pow_succ];exact hr)⟩) rfl) ?_
   refine dcp (fun v w'=>IsW w' v (1)) (fun _ _ _ _ hx h=>h.ext hx.toExt) (fun σ wx hE hk=>zC ⟨Ext.refl _,IsW.of_eq hk.1 (hQ.ext hE)⟩) (dvp (fun σ wx hE hk=>zp zz hk.1 (hB1.ext hE) (Nat.le_of_ble_eq_true rfl) ⟨Ext.refl _,rfl⟩) (dcp (fun v w'=>IsW w' v (1)) (fun _ _ _ _ hx h=>h.ext hx.toExt) (fun σ wx hE hk=>zH hb104 (CallK.of_ret (zCJ (IsNum.of_eq hk.1 (hx.ext hE))) fun v w2 hX hr=>⟨hX,(by exact hr)⟩) rfl) (dcp (fun v w'=>IsW w' v (1)) (fun _ _ _ _ hx h=>h.ext hx.toExt) (fun σ wx hE hk=>zH hb103 (CallK.of_ret (zEU hk.1 hk.2.1 zGE zGE) fun v w2 hX hr=>⟨hX,hr⟩) rfl) (dcp (fun v w'=>IsW w' v (2^(i+1))) (fun _ _ _ _ hx h=>h.ext hx.toExt) (fun σ wx hE hk=>zZ ⟨Ext.refl _,hk.1⟩) (dcp (fun v w'=>IsW w' v (1)) (fun _ _ _ _ hx h=>h.ext hx.toExt) (fun σ wx hE hk=>zZ ⟨Ext.refl _,hk.1⟩) (zBW (hK _ fun wq hE => ?_)))))));rintro v43 N43 _ rfl _ rfl v46 N46 v47 N47 _ rfl v49 N49 v50 N50 v6 N6 v7 N7;refine zn ?_;replace E0:=E0.trans hE;replace hB1:=hB1.ext hE;replace hB2:=hB2.ext hE;replace hx:=hx.ext hE;replace hxn:=hxn.ext hE;replace hP:=hP.ext hE;replace hQ:=hQ.ext hE;clear hE;refine zS (zN (K5 [1,2,4,6,7,40,41] ?_))
   exact K6 fun K=>K8 rfl (mv (rl K (zP (⟨rfl,i+1,⟨_,_,⟨rfl,rfl,rfl,rfl,rfl,rfl,rfl,rfl,rfl,rfl,rfl,rfl,rfl,congrArg (Value.int .i64) (zx (by omega)),trivial⟩,by omega,E0,hB1,hB2,hx,hxn,N6,N7⟩,by omega⟩))))
 · have hge:=f_lt hc;obtain rfl:i=n:=by omega
   clear hc;refine zV (zv (zi (zL (zN (rj fun K=>K1 (zJ zDM rfl (K1 (zI zCj rfl hB1 rfl (mv (K3 (K3 (K3 (pk rfl (mv (mv ?_)))))))))))))));refine K1 (j1 E0 hB2.ext hb102 (zBY hP hQ (by decide) (zOu hn) zGE) fun v61 w2 E0 hB2 hq1 => ?_);rw [pow2_num] at hq1;refine K1 (zK rfl hq1 (Cell3.of hB2 rfl) fun _ w9 hU hN => ?_);replace E0:=E0.upd hU hgb2;obtain ⟨cs,hB4,hl4,hN4⟩:=hN;refine ag (rm [1,2,4,5,40,41] K ?_);exact zB (zQ ⟨rfl,_,zh rfl rfl rfl rfl zz hB4 hl4,E0,_,rfl,hN4⟩)
end Go.Proofs.YtjiendlfobjanaaGreatDoor
namespace Go.Proofs.YtjiendlfobjanaaGreatDoor
open Go Go.RowKit Go.Proofs Tryz
variable {L:List (List UInt8)} {a m n:Nat} {p:Poly}
theorem zKy {T a b l:Poly} {u v:Rat} (huv:u<v) (h:zCm T a b n=some l) (ha:a.length≤2) (hb:b.length≤2) (hT:T=[]) (hB:∀ x,u<x→x<v→ev b x≠0):l=[]:=by
 subst hT;refine zNR (zEF h ha hb).1 zEJ huv fun x h1 h2 => ?_;rw [zFB h (by simp) (hB x h1 h2)];show _*(0:Rat)=0;grind
theorem zOR {d:Poly} (h:CH a p) (hd:∀ k,co d k=co p k*2^n):CH (a+n) d:=by
 obtain ⟨D,h1,h2,h3⟩:=h;have hp:2^(a+n)=2^a*2^n:=Nat.pow_add 2 a n;have hn:1≤2^n:=Nat.one_le_two_pow;refine ⟨D,h1,?_,fun k => ?_⟩
 · have:=Nat.mul_le_mul (Nat.le_refl (2^a)) hn;omega
 · obtain ⟨z,z1,z2⟩:=h3 k;refine ⟨z*2^n,?_,?_⟩
   · rw [hd,Rat.intCast_mul,← z1,Rat.intCast_pow];have:((2:Int):Rat)=2:=rfl;rw [this];grind
   · rw [Int.natAbs_mul,Int.natAbs_pow,hp];have h4:(2:Int).natAbs=2:=rfl;rw [h4,← Nat.mul_assoc];exact Nat.mul_le_mul_right _ z2
theorem inv_pow' {w:Rat} (hw:w≠0) (k:Nat):w^k*(1/w)^k=1:=by rw [Rat.mul_comm];exact zPG hw k
theorem two_pow_pos (n:Nat):(0:Rat)<2^n:=Rat.pow_pos (by decide)
theorem sz_two_pow (n:Nat):sz ((2:Rat)^n)≤2*(n+2):=by
 refine sz_of (z:=2^n) (D:=1) (by decide) ?_ ?_ ?_
 · rw [Rat.intCast_pow];have:((2:Int):Rat)=2:=rfl;rw [this];show _*(1:Rat)=_;grind
 · rw [Int.natAbs_pow];have h4:(2:Int).natAbs=2:=rfl;rw [h4,Nat.pow_add];omega
 · have:=Nat.one_le_two_pow (n:=n);rw [Nat.pow_add];show 2*1≤_;omega
theorem zLD {c:Rat} {x:Poly} {l:Rat} (hc:c≠0) (hl:l≠0) (hx:Trimd x):Trimd (scl c x l):=fun n hn=>by
 rw [zKV] at hn;rw [zHV];have h1:=hx n hn;have h2:=pow_ne hc n;have h3:co x n*c^n≠0:=fun e=>by rcases Rat.mul_eq_zero.1 e with e | e<;>contradiction
 exact fun e=>by rcases Rat.mul_eq_zero.1 e with e | e<;>contradiction
theorem routh_of {R:Int×Int×Int} (hp:Trimd p) (hn:p.length=n+1) (hl:n<41) (h:routh p=some R):∃ r,zGM p=some r∧R=(r.1,r.2,0):=by
 unfold routh at h;rw [zMl hp hn hl,if_neg (by simp)] at h;obtain ⟨r,hr,rfl⟩:=cmap h;exact ⟨r,hr,rfl⟩
theorem hurS_iff (a b:Int):hurS (a,b,0)=true↔a=0∧b=0:=by
 unfold hurS;rw [decide_eq_true_eq];simp
theorem frac_of {A:Nat} (hp:Trimd p) (hn:p.length=n+1) (hl:n+1≤10) (hA:A≤5000) (h:CH A p):∃ F,fracL n (fracA p) (fracB p)=some F:=by
 have hcA:∀ k,co (fracA p) k=co p k∨co (fracA p) k=0:=fun k=>by
  rw [zEn];split
  · exact .inl rfl
  · exact .inr rfl
 have hcB:∀ k,co (fracB p) k=co p k∨co (fracB p) k=0:=fun k=>by
  rw [zFl];split
  · exact .inr rfl
  · exact .inl rfl
 have P:=zHw hp hn;have hg:grow 10=3363:=by decide
 obtain ⟨F,hF,-⟩:=zKK (T:=10) (A:=A) (by rw [hg];omega) (n:=n) (i:=0) P.da P.db P.la (by omega) (by omega) ((h.part hcA).le (by show A≤1*A;omega)) ((h.part hcB).le (by show A≤grow 1*A;have:=Nat.mul_le_mul_right A (zFY 1);omega));exact ⟨F,hF⟩
theorem disc_law {t:List UInt8} (hL:smM L=true) (ht:t.length≤40) (hm:m<4) :
 (trim (numsS L)).length≤10∧(∀ k,sz (co (trim (numsS L)) k)≤2662) ∧
 (¬ 0<(zW t).1→zIG (trim (numsS L)) ((trim (numsS L)).length-1+m) (zW t).1=some ([],7)) ∧
 (0<(zW t).1→∃ q y:Poly,zIG (trim (numsS L)) ((trim (numsS L)).length-1+m) (zW t).1=some (q,0)∧backS q ((trim (numsS L)).length-1+m) (zW t).1=some (y,0) ∧
  zCA (trim (numsS L)) (2^((trim (numsS L)).length-1+m))=some y∧(∀ k,sz (co y k)≤3000)∧q.length≤13 ∧
  (trim (numsS L)=[]→zJW q=some (0,0,0,8))∧(trim (numsS L)≠[]→∃ (R:Int×Int×Int) (i o w:Int),routh (trim (numsS L))=some R∧zJW q=some (i,o,w,0)∧0≤i∧0≤o∧0≤w∧i+o+w=(q.length:Int)-1 ∧
   (m=0→(hurS R=true↔i=(((trim (numsS L)).length-1+m:Nat):Int))))):=by
 have hqt:=qt_parse ht;generalize (zW t).1=u at *;unfold smM at hL;simp only [Bool.and_eq_true,decide_eq_true_eq] at hL;obtain ⟨h10,hsh⟩:=hL;unfold shM at hsh;simp only [Bool.and_eq_true,List.all_eq_true,decide_eq_true_eq] at hsh;have h40:=hsh.2;have hnl:(numsS L).length=L.length:=by simp [numsS]
 have hch:CH 1331 (numsS L):=ch_small 10 (by omega) fun q hq=>by
  obtain ⟨t,ht,rfl⟩:=List.mem_map.1 hq;exact zIg (h40 t ht)
 generalize numsS L=p at *;have htl:=zFu p;have hct:CH 1331 (trim p):=hch.of_co (zAr p);have hx:=zAI p;generalize trim p=x at *;have hxl:x.length≤10:=by omega
 refine ⟨hxl,fun k=>hct.sz k,fun hu => ?_,fun hu => ?_⟩
 · unfold zIG zCi;rw [zu hx,if_neg (show ¬ 41<x.length by omega),if_pos (show _∨_∨¬ 0<u from .inr (.inr hu))];rfl
 have hu0:u≠0:=by grind
 have htim:∀ q:Poly,Trimd q→q.length≤(x.length-1+m)+1→zCi q (x.length-1+m) u=0:=fun q hq hl=>by
  unfold zCi;rw [zu hq,if_neg (by omega),if_neg];rintro (h | h | h)
  · omega
  · omega
  · exact h hu
 have hn:x.length≤(x.length-1+m)+1:=by omega
 have hn12:x.length-1+m≤12:=by omega
 have hmn:m=0→x≠[]→x.length=(x.length-1+m)+1:=fun h1 h2=>by have:=zy h2;omega
 generalize hN:x.length-1+m=n at *;have hqc:Qt 134 (2/u):=qt_two hu0 hqt;have hqh:Qt 134 (u/2):=zOi hqt;have hc1:CH 135 [-(2/u),2/u]:=zKx hqc _ (zML (P:=fun y=>y=2/u∨y = -(2/u)∨y=1∨y=0) (.inr (.inl rfl)) (.inl rfl) (.inr (.inr (.inr rfl))));have hc2:CH 135 [1,1]:=zKx hqc _ (zML (P:=fun y=>y=2/u∨y = -(2/u)∨y=1∨y=0) (.inr (.inr (.inl rfl))) (.inr (.inr (.inl rfl))) (.inr (.inr (.inr rfl))));have hc3:CH 135 [1,u/2]:=zKx hqh _ (zML (P:=fun y=>y=u/2∨y = -(u/2)∨y=1∨y=0) (.inr (.inr (.inl rfl))) (.inl rfl) (.inr (.inr (.inr rfl))));have hc4:CH 135 [1,-(u/2)]:=zKx hqh _ (zML (P:=fun y=>y=u/2∨y = -(u/2)∨y=1∨y=0) (.inr (.inr (.inl rfl))) (.inr (.inl rfl)) (.inr (.inr (.inr rfl))));have hc5:CH 135 [1,-1]:=(zKx (x:=1) (a:=1) ⟨1,1,by decide,Rat.one_mul _,by decide,by decide⟩ _ (zML (P:=fun y=>y=1∨y = -1∨y=1∨y=0) (.inl rfl) (.inr (.inl rfl)) (.inr (.inr (.inr rfl))))).le (by decide);have hcc:(n+1)*(1331+21*135+300)≤13*(1331+21*135+300):=Nat.mul_le_mul_right _ (by omega);obtain ⟨q,hq,hqC⟩:=zJw hct hc1 hc2 (by simp) (by simp) (show n≤20 by omega) (by decide) (by decide);have hqC:CH 60000 q:=hqC.le (by omega);obtain ⟨q1,q2⟩:=zEF hq (by simp) (by simp)
 obtain ⟨y,hy,-⟩:=zJw hqC hc3 hc4 (by simp) (by simp) (show n≤20 by omega) (by decide) (by decide);have hs2:=sz_two_pow n;obtain ⟨z,hz⟩:=zFR (p:=x) (x:=2^n) fun k=>by have:=hct.sz k;omega
 have hyz:=back_law hn (h:=u/2) (c:=2/u) (by have:=div_pos hu (show (0:Rat)<2 by decide);exact this) (by grind) hq hy hz;subst hyz;have hyC:CH (1331+n) y:=zOR hct (zAe hz).2;have hu2:0<u/2:=div_pos hu (by decide);have hs22:sz 2≤4:=by decide
 refine ⟨q,y,?_,?_,hz,fun k=>by have:=hyC.sz k;omega,by omega,fun hx0 => ?_,fun hx0 => ?_⟩
 · unfold zIG;rw [htim x hx (by omega),if_neg (by simp),zDW (by have:=qt_sz hqt;omega)];show (zCm x _ _ n).map _=_;rw [hq];rfl
 · unfold backS;rw [htim q q1 q2,if_neg (by simp),zDW (by have:=qt_sz hqt;omega)];show (zCm q _ _ n).map _=_;rw [hy];rfl
 · have hq0:q=[]:=zKy (u:=0) (v:=1) (by decide) hq (by simp) (by simp) hx0 fun s h1 _=>by rw [zFz];grind
   rw [hq0];rfl
 · have hq0:q≠[]:=fun e=>by
    have hy0:y=[]:=zKy (u:=0) (v:=1/(u/2)) (div_pos (by decide) hu2) hy (by simp) (by simp) e fun s h1 h2=>by
     rw [zFz];have:=Rat.mul_pos hu2 (show 0<1/(u/2)-s by grind);have:u/2*(1/(u/2))=1:=by grind
     grind
    have:=zDS hz hx (by have:=two_pow_pos n;grind);rw [hy0] at this;exact hx0 (zAo this.symm)
   obtain ⟨d,hd⟩:∃ d,q.length=d+1:=⟨q.length-1,by have:=zy hq0;omega⟩;have hcd:(d+1)*(60000+21*135+300)≤13*(60000+21*135+300):=Nat.mul_le_mul_right _ (by omega);obtain ⟨p2,hp2,-⟩:=zJw hqC hc2 hc5 (by simp) (by simp) (show d≤20 by omega) (by decide) (by decide);obtain ⟨p3,p4⟩:=zEF hp2 (by simp) (by simp);have hc0:2/u≠0:=by have:=div_pos (show (0:Rat)<2 by decide) hu;grind
   have hn2:(2:Rat)^n≠0:=by have:=two_pow_pos n;grind
   have hval:∀ s,0<s→s<1→ev (itD (n-d) p2) s=ev (scl (2/u) x (2^n)) s:=fun s h1 h2=>schur_val hn hq hd hp2 h1 h2;have hp0:p2≠[]:=fun e=>by
    have h1:=zNR (p:=[]) (q:=scl (2/u) x (2^n)) zEJ (zLD hc0 hn2 hx) (u:=0) (v:=1) (by decide) fun s h1 h2=>by
     rw [← hval s h1 h2,zOI,e];show (0:Rat)=0*_;grind
    have h2:=zKV (2/u) x (2^n);rw [← h1] at h2;exact hx0 (zAo h2.symm)
   have hlist:itD (n-d) p2=scl (2/u) x (2^n):=zNR (zMB p3 hp0 _) (zLD hc0 hn2 hx) (u:=0) (v:=1) (by decide) hval;have hlen:p2.length+(n-d)=x.length:=by
    have:=zKS p2 (n-d);rw [hlist,zKV] at this;omega
   have hpC:CH 2700 p2:=by
    have h1:CH (1331+134*9) (scl (2/u) x 1):=ch_scale hxl hqc (fun k=>by rw [zHV];grind) hct;have h2:CH (1331+134*9+n) (itD (n-d) p2):=by
     rw [hlist];exact zOR h1 fun k=>by rw [zHV,zHV];grind
    exact (zPX (n-d) (by omega) h2).le (by omega)
   obtain ⟨e,he⟩:∃ e,p2.length=e+1:=⟨p2.length-1,by have:=zy hp0;omega⟩;obtain ⟨k,hk⟩:∃ k,x.length=k+1:=⟨x.length-1,by have:=zy hx0;omega⟩;obtain ⟨R,r1,r2⟩:=zMx hx hk (by omega) (by decide) (by decide) hct;obtain ⟨R2,s1,s2⟩:=zMx p3 he (by omega) (by decide) (by decide) hpC;obtain ⟨r,t1,rfl⟩:=routh_of p3 he (by omega) s1;obtain ⟨c1,c2,c3⟩:=routh_counts p3 hp0 t1;refine ⟨R,(p2.length:Int)-1-r.1-r.2,(q.length:Int)-1-((p2.length:Int)-1-r.1-r.2)-r.1,r.1,r1,?_,by omega,by omega,c1,by omega,fun h0 => ?_⟩
   · unfold zJW;rw [zMl q1 hd (by omega),if_neg (by simp),zu q1,hd,Nat.add_sub_cancel];show (zCm q _ _ d).bind _=_;rw [hp2];show (routh p2).map _=_;rw [s1,zu p3];rfl
   · have hxn:=hmn h0 hx0;rw [hurS_iff] at s2;by_cases hdn:n-d=0
     · rw [hdn] at hlist hlen;have hlist:p2=scl (2/u) x (2^n):=hlist;obtain rfl:e=k:=by omega
       have hco:∀ i,co p2 i=co (scl (2/u) x 1) i*2^n:=fun i=>by rw [hlist,zHV,zHV];grind
       have hco1:∀ i,co (scl (2/u) x 1) i=co x i*(2/u)^i:=fun i=>by rw [zHV];grind
       have hcp:0<2/u:=div_pos (by decide) hu;have hcp2:0<1/(2/u):=div_pos (by decide) hcp;have hff:(∃ H,HF e (Nof (co p2)) H∧PD e H)↔∃ H,HF e (Nof (co x)) H∧PD e H:=by
        constructor
        · intro h;have h1:∃ H,HF e (Nof (co (scl (2/u) x 1))) H∧PD e H:=zOO (u:=1/2^n) (div_pos (by decide) (two_pow_pos n)) (fun i=>by rw [hco];grind) h;exact zJT hcp2 (fun i=>by rw [hco1,Rat.mul_assoc,inv_pow' hc0];grind) h1
        · intro h;exact zOO (two_pow_pos n) hco (zJT hcp hco1 h)
       rw [r2,← hff,← s2];constructor
       · rintro ⟨a,b⟩;omega
       · intro a;omega
     · constructor
       · intro hR;exfalso;obtain ⟨F,hF⟩:=frac_of hx hk (by omega) (by decide) hct;refine form_root hx hk hF (r2.1 hR) (div_pos (show (0:Rat)<2 by decide) hu) ?_;have h1:=zOI p2 1 (n-d);rw [hlist,zOt,show n-d=(n-d-1)+1 by omega,Rat.pow_succ,Rat.mul_one] at h1;have h2:ev x (2/u)*2^n=0:=by grind
         rcases Rat.mul_eq_zero.1 h2 with h | h
         · exact h
         · exact absurd h hn2
       · intro a;omega
end Go.Proofs.YtjiendlfobjanaaGreatDoor
namespace Go.Proofs.YtjiendlfobjanaaGreatDoor
open Go Go.RowKit Go.Proofs Tryz
set_option maxRecDepth 10000
set_option maxHeartbeats 2000000
attribute [local irreducible] Runs WPE CallK Ret
variable {L:List (List UInt8)} {k:Nat} {v:Value} {w:World}
theorem FilterDiscrete_ok {t:List UInt8} (hk:k<256) (hv:IsVs w v L):Ret prog 9 #[v,.int .u8 (k:Int),S t] w (fun r _=>r = .bool true):=by
 obtain ⟨pl,cl,rfl,hcl,hin⟩:=hv;have hv:IsVs w (.slice pl L.length cl) L:=⟨pl,cl,rfl,hcl,hin⟩;clear hin;have E0:Ext w w:=Ext.refl w;refine J0 153 func9 rfl (rj fun K=>ag (rm [0,1,2] K ?_));refine zA (rJ fun K=>mv ?_);refine K1 (zc (cs:=[S t]) Tryz.underlying22 info52' (by decide) (by decide) (by kernel_rfl) fun b6 w7 hb7 hE hB7 hs => ?_);replace E0:=E0.trans hE;replace hv:=hv.ext hE;clear hE hb7 hs;have hv1:=IsVs.one hB7;clear hB7;refine K1 (zc (cs:=[.slice pl L.length cl,.slice (some ⟨b6,0,none⟩) 1 1]) zHp info22' (by decide) (by decide) (by kernel_rfl) fun b7 w7 hb7 hE hB7 hs => ?_);replace E0:=E0.trans hE;replace hv:=hv.ext hE;replace hv1:=hv1.ext hE;clear hE hb7 hs;refine K1 (j1 E0 hv.ext hb13 (smallL_ok (IsVV.two (K:=[t]) hB7 hv hv1) (by simp)) fun vs w1 E0 hv hr => ?_);clear hB7 hv1;obtain rfl:=hr.trans (congrArg Value.bool (show [L,[t]].all smM=(smM L&&smM [t]) by simp));refine K1 (zr rfl (rm [0,1,2,26] K ?_));refine K0 rfl ?_ ?_<;>intro hc
 · refine rj fun K=>K1 (j1 E0 hv.ext hb14 (zGY) fun va w2 E0 hv hr => ?_);subst hr;refine ag (rm [6] K ?_);exact zB (zU (en rfl E0 rfl))
 · have hLt:smM L=true∧smM [t]=true:=by
    cases h1:smM L with
    | true=>cases h2:smM [t] with
     | true=>exact ⟨rfl,rfl⟩
     | false=>rw [h1,h2] at hc;cases hc
    | false=>rw [h1] at hc;cases hc
   clear hc;obtain ⟨hL,ht1⟩:=hLt;obtain ⟨hl10,hl40⟩:=zPm hL;have ht40:t.length≤40:=(zPm ht1).2 0 (by simp);refine sk (rj fun K=>mv ?_);refine K1 (j1 E0 hv.ext hb15 (zOg hv (fun i hi=>by have:=hl40 i hi;omega) (by omega)) fun vx0 w2 E0 hv hr => ?_);obtain ⟨vx,vt,rfl,hxa,-⟩:=hr;have hx:=(hxa.own (by simp [numsS];omega)).poly;clear hxa;refine mv (xt rfl (xt rfl (ag (ag (rm [1,2,7] K ?_)))));refine rJ fun K=>K1 (j2 E0 hv.ext hx.ext hb34 (zCB hx) fun vx8 w3 E0 hv hx hr => ?_);have hx:=hr.poly;clear hr;refine ag (rm [1,2,7] K ?_);refine rj fun K=>mv ?_;refine K1 (zc (cs:=[S t]) Tryz.underlying22 info52' (by decide) (by decide) (by kernel_rfl) fun b9 w7 hb7 hE hB7 hs => ?_);replace E0:=E0.trans hE;replace hv:=hv.ext hE;replace hx:=hx.ext hE;clear hE hb7 hs;have hv1:=IsVs.one hB7;clear hB7;have hone:∀ i,i<[t].length→([t].getD i []).length<1000000000:=fun i hi=>by
    have:i=0:=by simpa using hi
    subst this;show t.length<_;omega
   refine K1 (j2 E0 hv.ext hx.ext hb15 (zOg hv1 hone (by simp)) fun vu0 w4 E0 hv hx hr => ?_);obtain ⟨vu,vt2,rfl,hua,-⟩:=hr;have hu:zO _ vu [(zW t).1]:=(hua.own (by simp [numsS])).poly;clear hua hv1;have hlaw:=disc_law hL ht40 (Nat.mod_lt k (show 0<4 by decide));generalize (zW t).1=q at hlaw hu;generalize trim (numsS L)=x at hlaw hx;obtain ⟨hx10,hsz,hneg,hpos⟩:=hlaw;obtain ⟨pu,cu,rfl,hcu,huP,hul⟩:=hu;obtain ⟨px,cx,rfl,hcpx,hxP,hxl⟩:=hx;have hx:zO _ (.slice px x.length cx) x:=⟨px,cx,rfl,hcpx,hxP,hxl⟩;refine mv (xt rfl (xt rfl (ag (ag (rm [1,7,9] K ?_)))));refine rJ fun K=>K1 (zG zAB rfl (K1 (zF (v := .int .i64 ((x.length:Int)-1)) rfl rfl (congrArg (fun z=>some (Value.int .i64 z)) (zj (by omega) (by omega))) (K1 (zCG rfl rfl (mv (K1 (zCT (S:=5) (D:=3) Tryz.underlying5 Tryz.underlying3 rfl ?_))))))));rw [zj (by omega) (by omega)];refine K1 (zAP (b:=4) (k%4) rfl rfl (by decide) rfl ?_);refine K1 (zF (v := .int .i64 ((x.length-1+k%4:Nat):Int)) rfl rfl (congrArg (fun z=>some (Value.int .i64 z)) (by rw [zj (by split<;>omega) (by split<;>omega)];split<;>omega)) ?_);have hk4:=Nat.mod_lt k (show 0<4 by decide);obtain ⟨n,hn⟩:∃ n,n=x.length-1+k%4:=⟨_,rfl⟩;rw [← hn] at hneg hpos ⊢;refine ag (rm [7,9,11] K ?_);refine zA ?_;by_cases hq:0<q
   · obtain ⟨q2,y,d1,d2,hsc,hsz2,hq13,hnil,hcon⟩:=hpos hq;clear hpos hneg;refine rI fun K=>mv (mv (K1 (zAL (l:=[q]) (ix:=0) huP rfl rfl (by simp) (K1 (zAS (l:=[q]) (i:=0) huP (by simp) rfl fun vn hvn => ?_)))));replace hvn:IsNum _ vn q:=hvn;refine K1 (j4 E0 hv.ext hx.ext huP.ext hxP.ext hb53 (zJC (by omega) hx hvn d1) fun vb w5 E0 hv hx huP hxP hr => ?_);obtain ⟨ub,rfl,hb⟩:=hr;clear hvn;obtain ⟨pb,cb,rfl,hcpb,hbP,hbl⟩:=hb;have hb:zO _ (.slice pb q2.length cb) q2:=⟨pb,cb,rfl,hcpb,hbP,hbl⟩;clear hbP;refine mv (xt rfl (xt rfl (ag (ag (rs [7,9,11,12,13] K ?_)))));refine zA (rJ fun K=>K1 (zAL (l:=[q]) (ix:=0) huP rfl rfl (by simp) (K1 (zAS (l:=[q]) (i:=0) huP (by simp) rfl fun vn hvn => ?_))));replace hvn:IsNum _ vn q:=hvn;refine K1 (j5 E0 hv.ext hx.ext huP.ext hxP.ext hb.ext hb19 (zAg hvn) fun vs w6 E0 hv hx huP hxP hb hr => ?_);subst hr;clear hvn;refine K9 (false) rfl (decide_eq_false (fun e=>(zKD q).1 e hq)) (rm [7,9,11,12,13,62] K ?_);refine wcf rfl (sk (rJ fun K=>mv (mv (K1 (zAL (l:=[q]) (ix:=0) huP rfl rfl (by simp) (K1 (zAS (l:=[q]) (i:=0) huP (by simp) rfl fun vn hvn => ?_)))))));replace hvn:IsNum _ vn q:=hvn;refine K1 (j5 E0 hv.ext hx.ext huP.ext hxP.ext hb.ext hb54 (Back_ok (by omega) hb hvn d2) fun vk w7 E0 hv hx huP hxP hb hr => ?_);obtain ⟨uk,rfl,hy⟩:=hr;clear hvn
     refine mv (xt rfl (xt rfl (ag (ag (rm [7,11,12,13,14,15] K ?_)))));refine rj fun K=>K1 (j6 E0 hv.ext hx.ext huP.ext hxP.ext hb.ext hy.ext hb38 (zDO (n:=2) (by decide) (by decide)) fun v78 w8 E0 hv hx huP hxP hb hy N78 => ?_);replace N78:IsNum _ v78 2:=N78;refine mv (K1 (j7 E0 hv.ext hx.ext huP.ext hxP.ext hb.ext hy.ext N78.ext hb55 (Pow2_ok (n:=n) (by omega) N78) fun vp w9 E0 hv hx huP hxP hb hy N78 hr => ?_));obtain ⟨up,rfl,hpw⟩:=hr
     try clear N78
     refine mv (xt rfl (xt rfl ?_));have hX0:=E0.self;have hs0:=E0.size;refine K1 (zd zAa fun fb w7 hfb hE hBf hs => ?_);have hXE:=hX0.trans hE;replace E0:=E0.trans hE;replace hpw:=hpw.ext hE;clear hE hs;refine K1 (zK rfl hpw (Cell3.of hBf rfl) fun _ w9 hU hD => ?_);have hE2:=hXE.upd hU (by rw [hfb];exact Nat.le_refl _);replace E0:=E0.upd hU (by rw [hfb];exact hs0);replace hx:=hx.ext hE2;replace hxP:=hxP.ext hE2;replace huP:=huP.ext hE2;replace hb:=hb.ext hE2;replace hy:=hy.ext hE2;clear hX0 hXE hU hBf hpw hE2 hs0 hfb hv;refine ag (rm [7,11,12,13,14,15,16] K ?_);refine zA (rJ fun K=>K8 rfl (mv (K7 (K2 (zF rfl rfl rfl (pk rfl (mv (K7 (K7 (K2 (zR rfl hD fun v92 N92=>K2 (j6 E0 hx.ext huP.ext hxP.ext hb.ext hy.ext hD.ext hb56 (zDn hx N92 hsc) fun vsc w10 E0 hx huP hxP hb hy hD hsc1 => ?_))))))))))));replace hsc1:=hsc1.poly
     try clear N92
     refine K2 (j7 E0 hx.ext huP.ext hxP.ext hb.ext hy.ext hD.ext hsc1.ext hb21 (zNx hy hsc1 (fun _ i _=>room_co hsz2 (by decide) i)) fun ve w11 E0 hx huP hxP hb hy hD hsc1 hr => ?_);obtain rfl:=hr.trans (congrArg Value.bool (decide_eq_true rfl));clear hsc1 hy hD;refine K2 (zr rfl (pk rfl (rm [7,11,12,96] K ?_)));refine wcf rfl (sk (zA ?_));by_cases hx0:x=[]
     · have hs:=hnil hx0;refine rI fun K=>K1 (j4 E0 hx.ext huP.ext hxP.ext hb.ext hb57 (zNM hb hs (by decide) (by decide) (by decide) (by decide)) fun vs w12 E0 hx huP hxP hb hr => ?_);subst hr;refine mv (xt rfl (xt rfl (xt rfl (xt rfl (ag (ag (ag (ag (rs [7,11,12,13,18,19,20] K ?_)))))))));refine zA (rJ fun K=>K1 (zG zAB rfl ?_));refine K9 (true) rfl (by rw [hx0];rfl) ?_;refine rm [7,11,12,13,18,19,20,106] K ?_;refine wct rfl (rJ fun K=>K8 rfl (mv (K2 (j4 E0 hx.ext huP.ext hxP.ext hb.ext hb14 (zGY) fun va w13 E0 hx huP hxP hb hr => ?_))));subst hr;refine pk rfl (ag (rm [6] K ?_));exact zB (zU (en rfl E0 rfl))
     · obtain ⟨R,i,o,u,r1,hs,hi,ho,hu,hsum,hiff⟩:=hcon hx0;have hx1:=List.length_pos_iff.2 hx0;refine K6 fun K=>mv ?_;refine K1 (j4 E0 hx.ext huP.ext hxP.ext hb.ext hb57 (zNM hb hs hi (by show i≤1000000;omega) hu (by show u≤1000000;omega)) fun vs w12 E0 hx huP hxP hb hr => ?_);subst hr;refine mv (xt rfl (xt rfl (xt rfl (xt rfl (ag (ag (ag (ag (rs [7,11,12,13,18,19,20] K ?_)))))))));refine zA (rJ fun K=>K1 (zG zAB rfl (K9 (false) rfl (beq_eq_false_iff_ne.2 (by omega)) (rm [7,11,12,13,18,19,20,106] K ?_))));refine wcf rfl (sk (zA (rJ fun K=>K8 rfl (mv (K7 (K2 (zF (v := .bool (false)) rfl rfl (congrArg (fun z=>some (Value.bool z)) (decide_eq_false (by omega))) (pk rfl (mv (K7 (K2 (zF (v := .bool (false)) rfl rfl (congrArg (fun z=>some (Value.bool z)) (decide_eq_false (by omega))) (pk rfl ?_)))))))))))))
       refine mv (K7 (K2 (zF (v := .bool (false)) rfl rfl (congrArg (fun z=>some (Value.bool z)) (decide_eq_false (by omega))) (pk rfl (mv (K7 (K7 (K2 (zF (v := .int .i64 (i+o)) rfl rfl (congrArg (fun z=>some (Value.int .i64 z)) (zj (by omega) (by omega))) (K7 (K2 (zF (v := .int .i64 (i+o+u)) rfl rfl (congrArg (fun z=>some (Value.int .i64 z)) (zj (by omega) (by omega))) (K7 (K2 (zG zAB rfl (K2 (zF (v := .int .i64 ((q2.length:Int)-1)) rfl rfl (congrArg (fun z=>some (Value.int .i64 z)) (zj (by omega) (by omega))) ?_)))))))))))))))));refine K2 (zF (v := .bool (false)) rfl rfl (congrArg (fun z=>some (Value.bool z)) (by rw [hsum];exact bne_self_eq_false _)) ?_);refine pk rfl (rm [7,11,18,136] K ?_);refine wcf rfl (sk (zA ?_));by_cases hm0:k%4=0
       · have hif:=hiff hm0;refine rI fun K=>mv (K1 (zG zAB rfl (K1 (zF (v := .int .i64 ((x.length:Int)-1)) rfl rfl (congrArg (fun z=>some (Value.int .i64 z)) (zj (by omega) (by omega))) (K9 (false) rfl (decide_eq_false (by omega)) (mv (K7 (K2 (j4 E0 hx.ext huP.ext hxP.ext hb.ext hb20 (hurwitz_ok hx r1) fun vh w13 E0 hx huP hxP hb hr => ?_)))))))));subst hr;refine K7 (K7 ?_);refine K2 (zF (v := .bool (hurS R)) rfl rfl (congrArg (fun z=>some (Value.bool z)) (by rw [Bool.eq_iff_iff,hif];exact beq_iff_eq)) ?_);refine K2 (zLW zON rfl rfl ?_);rw [show (hurS R==hurS R)=true from beq_self_eq_true _];refine pk rfl (mv (K2 (j4 E0 hx.ext huP.ext hxP.ext hb.ext hb14 (zGY) fun va w14 E0 hx huP hxP hb hr => ?_)));subst hr;refine pk rfl (ag (rs [6] K ?_));exact zB (en rfl E0 rfl)
       · skip
         refine rI fun K=>mv (K1 (zG zAB rfl (K1 (zF (v := .int .i64 ((x.length:Int)-1)) rfl rfl (congrArg (fun z=>some (Value.int .i64 z)) (zj (by omega) (by omega))) (K9 (true) rfl (decide_eq_true (by omega)) (mv (K3 (K3 (K3 (K3 (K3 (K3 (pk rfl (mv ?_))))))))))))));refine K2 (j4 E0 hx.ext huP.ext hxP.ext hb.ext hb14 (zGY) fun va w13 E0 hx huP hxP hb hr => ?_);subst hr;refine pk rfl (ag (rs [6] K ?_));exact zB (en rfl E0 rfl)
   · have d1:=hneg hq;clear hpos hneg;refine rI fun K=>mv (mv (K1 (zAL (l:=[q]) (ix:=0) huP rfl rfl (by simp) (K1 (zAS (l:=[q]) (i:=0) huP (by simp) rfl fun vn hvn => ?_)))));replace hvn:IsNum _ vn q:=hvn;refine K1 (j4 E0 hv.ext hx.ext huP.ext hxP.ext hb53 (zJC (by omega) hx hvn d1) fun vb w5 E0 hv hx huP hxP hr => ?_);obtain ⟨ub,rfl,hb⟩:=hr;clear hvn;clear hb;refine mv (xt rfl (xt rfl (ag (ag (rs [7,9,11,12,13] K ?_)))));refine zA (rJ fun K=>K1 (zAL (l:=[q]) (ix:=0) huP rfl rfl (by simp) (K1 (zAS (l:=[q]) (i:=0) huP (by simp) rfl fun vn hvn => ?_))));replace hvn:IsNum _ vn q:=hvn;refine K1 (j4 E0 hv.ext hx.ext huP.ext hxP.ext hb19 (zAg hvn) fun vs w6 E0 hv hx huP hxP hr => ?_);subst hr;clear hvn;refine K9 (true) rfl (decide_eq_true ((zKD q).2 hq)) (rm [7,9,11,12,13,62] K ?_);refine wct rfl (rJ fun K=>K8 rfl (mv (K2 (j4 E0 hv.ext hx.ext huP.ext hxP.ext hb14 (zGY) fun va w7 E0 hv hx huP hxP hr => ?_))));subst hr;refine pk rfl (ag (rm [6] K ?_));exact zB (zU (en rfl E0 rfl))
end Go.Proofs.YtjiendlfobjanaaGreatDoor
