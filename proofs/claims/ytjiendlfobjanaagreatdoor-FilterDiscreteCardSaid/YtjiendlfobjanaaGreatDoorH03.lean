/-
  A part of the proof: W9, DivBig, W10, W11, W12, Num, W13, W14, W15, Poly, W16, Poly2, Range, W17, W18, W19, W20, AppE, W21, W22.
-/
import Derived.Test.YtjiendlfobjanaaGreatDoorH02
import Derived.Laws.Cover3
import Derived.RangeFuncKeeps
import Derived.RangeFuncLeaves
namespace Go.Proofs.YtjiendlfobjanaaGreatDoor
open Go Go.RowKit Go.Proofs Tryz
set_option maxRecDepth 10000
set_option maxHeartbeats 2000000
attribute [local irreducible] Runs WPE CallK Ret
variable {B V b b1 c1 carry cu d hi j k l1 lo n o t:Nat} {P:Program} {U:List Nat} {af:Array Edge} {f:FuncId} {g:Option (Nat×Bool)} {pos:String} {pv:Option Addr} {r:Option Nat} {ts:Array TypeId} {ty:TypeId} {v:Value} {vs:Array Value} {w:World} {σ:Operand→Value}
theorem zDZ {K:Value→World→Prop} {d:Option Tmp} {args:Array Operand} (hf:(callFunc f vs).run P w = .ok (.value v) w) (ha:args.toList.map σ=vs.toList) (hσ:σ (.func f) = .func (.func f) #[] #[]) (hk:K v w) :
 Runs P r ⟨d,.call { callee := .value (.func f),args:=args,argTypes:=ts },ty,pos,af,g⟩ σ w K :=
 zHH (by rw [ha,Array.toArray_toList];exact hf) hσ hk
theorem zLK (x y:Nat) (hx:x<18446744073709551616) (hy:y<18446744073709551616) :
 ∃ s k:Nat,(∀ w,(callFunc 193 #[.int .u64 (x:Int),.int .u64 (y:Int),.int .u64 0]).run prog w = .ok (.value (.tuple #[.int .u64 (s:Int),.int .u64 (k:Int)])) w)∧s+18446744073709551616*k=x+y+0∧s<18446744073709551616∧k≤1 :=
 zGt x y 0 hx hy (by decide)
def seg (U:List Nat) (o:Nat):Nat→Nat
 | 0=>0
 | n+1=>seg U o n+18446744073709551616^n*U.getD (o+n) 0
theorem zLk {U V:List Nat} {o:Nat}:∀ {n:Nat},(∀ k,o≤k→k<o+n→U.getD k 0=V.getD k 0)→seg U o n=seg V o n
 | 0,_=>rfl
 | n+1,h=>by rw [seg,seg,zLk (n:=n) fun k h1 h2=>h k h1 (by omega),h (o+n) (by omega) (by omega)]
theorem zBc (h:k<U.length):(U.set k d).getD k 0=d:=by simp [h]
theorem getD_set_ne (h:k≠j):(U.set k d).getD j 0=U.getD j 0:=by
 simp [List.getElem?_set_ne h]
theorem zKA (h:o+n<U.length):seg (U.set (o+n) d) o (n+1)=seg U o n+18446744073709551616^n*d:=by
 rw [seg,zBc h,zLk (n:=n) (V:=U) fun k h1 h2=>getD_set_ne (by omega)]
theorem zJl {U:List Nat} (h:Dig U) (o:Nat):∀ n,seg U o n<18446744073709551616^n
 | 0=>by simp [seg]
 | n+1=>by
  have h1:=zJl h o n;have h2:=h.getD (o+n);rw [seg,Nat.pow_succ];have h3:=Nat.mul_le_mul_left (18446744073709551616^n) (Nat.le_of_lt_succ (show U.getD (o+n) 0<18446744073709551615+1 from h2));generalize 18446744073709551616^n*U.getD (o+n) 0=A at *;generalize 18446744073709551616^n=B at *;omega
theorem zMt {x:Nat} (hx:x<18446744073709551616) (ht:t<18446744073709551616) (hc:carry<18446744073709551616)
 (e1:lo+18446744073709551616*hi=x*t) (e2:l1+18446744073709551616*c1=lo+carry+0):hi+c1<18446744073709551616:=by
 have hxy:x*t≤18446744073709551615*18446744073709551615:=Nat.mul_le_mul (by omega) (by omega);generalize x*t=p at *;omega
theorem take_step {S T x borrow u1 u:Nat} (h:S+t*V=T+B*(carry+borrow))
 (e1:lo+18446744073709551616*hi=x*t) (e2:l1+18446744073709551616*c1=lo+carry+0) (e3:u1+(l1+borrow)=u+18446744073709551616*b1) :
 S+B*u1+t*(V+B*x)=T+B*u+B*18446744073709551616*(hi+c1+b1):=by
 have k:u1+x*t+(carry+borrow)=u+18446744073709551616*(hi+c1+b1):=by
  generalize x*t=p at *;omega
 have k2:B*(u1+x*t+(carry+borrow))=B*(u+18446744073709551616*(hi+c1+b1)):=by rw [k]
 rw [Nat.mul_add t,← Nat.mul_assoc t,Nat.mul_comm t B,Nat.mul_assoc B t,Nat.mul_comm t x,Nat.mul_assoc B 18446744073709551616];simp only [Nat.mul_add] at k2 h ⊢;omega
theorem take_last {S T borrow u1 u:Nat} (h:S+V=T+B*(carry+borrow)) (e3:u1+(carry+borrow)=u+18446744073709551616*b1) :
 S+B*u1+V=T+B*u+B*18446744073709551616*b1:=by
 have k2:B*(u1+(carry+borrow))=B*(u+18446744073709551616*b1):=by rw [e3]
 rw [Nat.mul_assoc];simp only [Nat.mul_add] at k2 h ⊢;omega
theorem give_step {S T x more u1 u:Nat} (h:S+B*(carry+more)=T+t*V)
 (e1:lo+18446744073709551616*hi=x*t) (e2:l1+18446744073709551616*c1=lo+carry+0) (e3:u1+18446744073709551616*b1=u+l1+more) :
 S+B*u1+B*18446744073709551616*(hi+c1+b1)=T+B*u+t*(V+B*x):=by
 have k:u1+18446744073709551616*(hi+c1+b1)=u+x*t+(carry+more):=by
  generalize x*t=p at *;omega
 have k2:B*(u1+18446744073709551616*(hi+c1+b1))=B*(u+x*t+(carry+more)):=by rw [k]
 rw [Nat.mul_add t,← Nat.mul_assoc t,Nat.mul_comm t B,Nat.mul_assoc B t,Nat.mul_comm t x,Nat.mul_assoc B 18446744073709551616];simp only [Nat.mul_add] at k2 h ⊢;omega
theorem give_last {S T more u1 u:Nat} (h:S+B*(carry+more)=T+V) (e3:u1+18446744073709551616*b1=u+carry+more) :
 S+B*u1+B*18446744073709551616*b1=T+B*u+V:=by
 have k2:B*(u1+18446744073709551616*b1)=B*(u+carry+more):=by rw [e3]
 rw [Nat.mul_assoc];simp only [Nat.mul_add] at k2 h ⊢;omega
theorem take_ok {lu cv:Nat} {vs:List Nat} (hU:Blk w b 164 (dv U)) (hUd:Dig U) (hV:Rd w pv vs) (hVd:Dig vs) (hn:∀ a,pv=some a→0<vs.length→a.block≠b) (ht:t<18446744073709551616) (hlu:vs.length<lu) (ho:o+lu≤U.length) (hbig:lu<4611686018427387904):CallK prog 269 #[.slice (some ⟨b,o,none⟩) lu cu,.slice pv vs.length cv,.int .u64 (t:Int)] w (fun v w'=>∃ U' c,v = .bool (((c:Nat):Int) != 0)∧c≤1∧Upd b w w'∧Blk w' b 164 (dv U')∧U'.length=U.length∧Dig U'∧(∀ k,k<o∨o+vs.length<k→U'.getD k 0=U.getD k 0)∧seg U' o (vs.length+1)+t*nat64 vs=seg U o (vs.length+1)+18446744073709551616^(vs.length+1)*c):=by
 refine zDr 67 func269 rfl rfl (Nat.le_of_ble_eq_true rfl) (rj fun K=>ag (rm [0,1,2] K ?_));refine rj fun K=>ag (ag (rm [0,1,2,7,8] K ?_));refine zA (rJ fun K=>K1 (zG zX rfl (mv (rm [0,1,2,7,8,14,15,16] K ?_))));refine zD (ze (X:=Nat×Nat×Nat) (fun p ρ w'=>Keep ρ [(0,.slice (some ⟨b,o,none⟩) lu cu),(1,.slice pv vs.length cv),(2,.int .u64 (t:Nat)),(7,.int .u64 (p.2.1:Nat)),(8,.int .u64 (p.2.2:Nat)),(14,.slice pv vs.length cv),(15,.int .i64 (vs.length:Nat)),(16,.int .i64 (p.1:Nat))]∧p.1≤vs.length∧p.2.1<18446744073709551616∧p.2.2≤1∧Upd b w w'∧∃ A,A.length=U.length∧Dig A∧(∀ k,k<o∨o+p.1≤k→A.getD k 0=U.getD k 0)∧seg A o p.1+t*nat64 (vs.take p.1)=seg U o p.1+18446744073709551616^p.1*(p.2.1+p.2.2)∧Blk w' b 164 (dv A)) (fun p=>vs.length-p.1) (0,0,0) ⟨(kp rfl),Nat.zero_le _,by decide,by decide,Upd.refl b w,U,rfl,hUd,fun _ _=>rfl,by simp [seg,nat64],hU⟩ ?_);rintro ⟨i,carry,borrow⟩ ρ1 w1 ⟨hk,hil,hcM,hbl,hW,A,hA,hAd,hAk,hS,hB⟩;simp only at hk hil hcM hbl hAk hS;have hV1:=hV.upd' hW hn;refine wpe_k _ hk ?_;clear hk ρ1;refine rj fun K=>K8 rfl (rm [0,1,2,7,8,14,15,16,17] K ?_);refine zA ?_;refine K0 rfl ?_ ?_<;>intro hc
 · have hlt:i<vs.length:=t_lt hc;clear hc;obtain ⟨b2,o2,cs2,hpv,hB2,hv2⟩:=hV1 i hlt;have hix:o+((i:Nat):Int).toNat*1=o+i:=by omega
   refine sk (zA (zD (rJ fun K=>K1 (zE (b:=b2) (o:=o2) zX (congrArg (fun p=>Value.slice p vs.length cv) hpv) rfl (by omega) (by omega) (K1 (zI zAR rfl hB2 (by simpa using hv2) (ag (ag (rm [0,1,2,7,8,9,10,14,15,16] K ?_)))))))));refine rJ fun K=>mv (K1 (zH hb192 (CallK.of_ret (zKu (hVd.getD i) ht _) fun v1 w3 hE hr => ?_) rfl));obtain ⟨hw3,hi,lo,rfl,e1,hlo⟩:=hr;clear hE;subst w3;obtain ⟨l1,c1,run1,e2,hl1,hc1⟩:=zLK lo carry hlo hcM;have n1:=zMt (hVd.getD i) ht hcM e1 e2;obtain ⟨u1,b1,run2,e3,hu1,hb1l⟩:=zNc (A.getD (o+i) 0) l1 borrow (hAd.getD _) hl1 hbl;refine mv (xt rfl (xt rfl (ag (ag (rm [0,1,2,7,8,9,11,12,14,15,16] K ?_)))));refine rJ fun K=>mv (K1 (zDZ (run1 _) rfl rfl (mv (xt rfl (xt rfl (ag (ag (rm [0,1,2,7,8,9,11,12,13,14,15,16] K ?_))))))));refine rJ fun K=>mv (K1 (zCF (hi+c1) rfl rfl rfl n1 (ag (rm [0,1,2,7,8,9,12,14,15,16] K ?_))));refine rI fun K=>mv (mv (mv (K1 (zE (b:=b) (o:=o) (ix:=((i:Nat):Int)) zX rfl rfl (by omega) (by omega) ?_))));refine K1 (zI zAR rfl hB (by rw [hix];exact zCW A (o+i) (by omega)) ?_);refine mv (mv (K1 (zDZ (run2 _) rfl rfl (mv (xt rfl (xt rfl (K1 (zE (b:=b) (o:=o) (ix:=((i:Nat):Int)) zX rfl rfl (by omega) (by omega) ?_))))))))
   refine K1 (zt zCc rfl hB rfl (by rw [hix,zAF];omega) (by decide) rfl fun w4 hX hN => ?_);refine ag (rl K (zS (zN (K5 [0,1,2,7,8,14,15,16] ?_))));refine K6 fun K=>K8 rfl (mv (rl K (zP ?_)));exact ⟨rfl,(i+1,hi+c1,b1),⟨⟨rfl,rfl,rfl,rfl,rfl,rfl,rfl,rfl,rfl,rfl,rfl,rfl,rfl,rfl,rfl,congrArg (Value.int .i64) (zx (by omega)),trivial⟩,by simp only;omega,n1,hb1l,hW.trans hX,_,by simp [hA],hAd.set _ hu1,fun k hk=>by rw [getD_set_ne (by omega)];exact hAk k (by omega),by rw [zKA (by omega),seg,nat64_take_succ',← hAk (o+i) (Or.inr (Nat.le_refl _)),Nat.pow_succ];exact take_step hS e1 e2 e3,zAj hN hix⟩,by simp only;omega⟩
 · have hge:=f_lt hc;obtain rfl:i=vs.length:=by omega
   clear hc;have hix:o+((vs.length:Nat):Int).toNat*1=o+vs.length:=by omega
   obtain ⟨u1,b1,run3,e3,hu1,hb1l⟩:=zNc (A.getD (o+vs.length) 0) carry borrow (hAd.getD _) hcM hbl;refine zV (zv (zi (zL (zN (rJ fun K=>mv (K1 (zG zX rfl (mv (mv (K1 (zG zX rfl (K1 (zE (b:=b) (o:=o) (ix:=((vs.length:Nat):Int)) zX rfl rfl (by omega) (by omega) ?_)))))))))))));refine K1 (zI zAR rfl hB (by rw [hix];exact zCW A (o+vs.length) (by omega)) ?_);refine mv (mv (K1 (zDZ (run3 _) rfl rfl (mv (xt rfl (xt rfl (K1 (zE (b:=b) (o:=o) (ix:=((vs.length:Nat):Int)) zX rfl rfl (by omega) (by omega) ?_))))))));refine K1 (zt zCc rfl hB rfl (by rw [hix,zAF];omega) (by decide) rfl fun w4 hX hN => ?_);refine ag (rm [0,1,2,7,8,14,15,16] K ?_);refine rJ fun K=>K8 rfl (ag (rm [0,1,2,6,7,8,14,15,16] K ?_));refine zB (zQ ?_);exact ⟨rfl,_,zg rfl rfl,_,b1,rfl,hb1l,hW.trans hX,zAj hN hix,by simp [hA],hAd.set _ hu1,fun k hk=>by rw [getD_set_ne (by omega)];exact hAk k (by omega),by rw [zKA (by omega),seg,← hAk (o+vs.length) (Or.inr (Nat.le_refl _)),Nat.pow_succ];rw [List.take_length] at hS;exact take_last hS e3⟩
theorem give_ok {lu cv:Nat} {vs:List Nat} (hU:Blk w b 164 (dv U)) (hUd:Dig U) (hV:Rd w pv vs) (hVd:Dig vs) (hn:∀ a,pv=some a→0<vs.length→a.block≠b) (ht:t<18446744073709551616) (hlu:vs.length<lu) (ho:o+lu≤U.length) (hbig:lu<4611686018427387904):CallK prog 270 #[.slice (some ⟨b,o,none⟩) lu cu,.slice pv vs.length cv,.int .u64 (t:Int)] w (fun v w'=>∃ U' c,c≤1∧Upd b w w'∧Blk w' b 164 (dv U')∧U'.length=U.length∧Dig U'∧(∀ k,k<o∨o+vs.length<k→U'.getD k 0=U.getD k 0)∧seg U' o (vs.length+1)+18446744073709551616^(vs.length+1)*c=seg U o (vs.length+1)+t*nat64 vs):=by
 refine zDr 64 func270 rfl rfl (Nat.le_of_ble_eq_true rfl) (rj fun K=>ag (ag (rm [0,1,2,6,7] K ?_)));refine zA (rJ fun K=>K1 (zG zX rfl (mv (rm [0,1,2,6,7,13,14,15] K ?_))));refine zD (ze (X:=Nat×Nat×Nat) (fun p ρ w'=>Keep ρ [(0,.slice (some ⟨b,o,none⟩) lu cu),(1,.slice pv vs.length cv),(2,.int .u64 (t:Nat)),(6,.int .u64 (p.2.1:Nat)),(7,.int .u64 (p.2.2:Nat)),(13,.slice pv vs.length cv),(14,.int .i64 (vs.length:Nat)),(15,.int .i64 (p.1:Nat))]∧p.1≤vs.length∧p.2.1<18446744073709551616∧p.2.2≤1∧Upd b w w'∧∃ A,A.length=U.length∧Dig A∧(∀ k,k<o∨o+p.1≤k→A.getD k 0=U.getD k 0)∧seg A o p.1+18446744073709551616^p.1*(p.2.1+p.2.2)=seg U o p.1+t*nat64 (vs.take p.1)∧Blk w' b 164 (dv A)) (fun p=>vs.length-p.1) (0,0,0) ⟨(kp rfl),Nat.zero_le _,by decide,by decide,Upd.refl b w,U,rfl,hUd,fun _ _=>rfl,by simp [seg,nat64],hU⟩ ?_);rintro ⟨i,carry,borrow⟩ ρ1 w1 ⟨hk,hil,hcM,hbl,hW,A,hA,hAd,hAk,hS,hB⟩;simp only at hk hil hcM hbl hAk hS;have hV1:=hV.upd' hW hn;refine wpe_k _ hk ?_;clear hk ρ1;refine rj fun K=>K8 rfl (rm [0,1,2,6,7,13,14,15,16] K ?_);refine zA ?_;refine K0 rfl ?_ ?_<;>intro hc
 · have hlt:i<vs.length:=t_lt hc;clear hc;obtain ⟨b2,o2,cs2,hpv,hB2,hv2⟩:=hV1 i hlt;have hix:o+((i:Nat):Int).toNat*1=o+i:=by omega
   refine sk (zA (zD (rJ fun K=>K1 (zE (b:=b2) (o:=o2) zX (congrArg (fun p=>Value.slice p vs.length cv) hpv) rfl (by omega) (by omega) (K1 (zI zAR rfl hB2 (by simpa using hv2) (ag (ag (rm [0,1,2,6,7,8,9,13,14,15] K ?_)))))))));refine rJ fun K=>mv (K1 (zH hb192 (CallK.of_ret (zKu (hVd.getD i) ht _) fun v1 w3 hE hr => ?_) rfl));obtain ⟨hw3,hi,lo,rfl,e1,hlo⟩:=hr;clear hE;subst w3;obtain ⟨l1,c1,run1,e2,hl1,hc1⟩:=zLK lo carry hlo hcM;have n1:=zMt (hVd.getD i) ht hcM e1 e2;obtain ⟨u1,b1,run2,e3,hu1,hb1l⟩:=zGt (A.getD (o+i) 0) l1 borrow (hAd.getD _) hl1 hbl;refine mv (xt rfl (xt rfl (ag (ag (rm [0,1,2,6,7,8,10,11,13,14,15] K ?_)))));refine rJ fun K=>mv (K1 (zDZ (run1 _) rfl rfl (mv (xt rfl (xt rfl (ag (ag (rm [0,1,2,6,7,8,10,11,12,13,14,15] K ?_))))))));refine rJ fun K=>mv (K1 (zCF (hi+c1) rfl rfl rfl n1 (ag (rm [0,1,2,6,7,8,11,13,14,15] K ?_))));refine rI fun K=>mv (mv (mv (K1 (zE (b:=b) (o:=o) (ix:=((i:Nat):Int)) zX rfl rfl (by omega) (by omega) ?_))));refine K1 (zI zAR rfl hB (by rw [hix];exact zCW A (o+i) (by omega)) ?_);refine mv (mv (K1 (zDZ (run2 _) rfl rfl (mv (xt rfl (xt rfl (K1 (zE (b:=b) (o:=o) (ix:=((i:Nat):Int)) zX rfl rfl (by omega) (by omega) ?_))))))))
   refine K1 (zt zCc rfl hB rfl (by rw [hix,zAF];omega) (by decide) rfl fun w4 hX hN => ?_);refine ag (rl K (zS (zN (K5 [0,1,2,6,7,13,14,15] ?_))));refine K6 fun K=>K8 rfl (mv (rl K (zP ?_)));exact ⟨rfl,(i+1,hi+c1,b1),⟨⟨rfl,rfl,rfl,rfl,rfl,rfl,rfl,rfl,rfl,rfl,rfl,rfl,rfl,rfl,rfl,congrArg (Value.int .i64) (zx (by omega)),trivial⟩,by simp only;omega,n1,hb1l,hW.trans hX,_,by simp [hA],hAd.set _ hu1,fun k hk=>by rw [getD_set_ne (by omega)];exact hAk k (by omega),by rw [zKA (by omega),seg,nat64_take_succ',← hAk (o+i) (Or.inr (Nat.le_refl _)),Nat.pow_succ];exact give_step hS e1 e2 e3,zAj hN hix⟩,by simp only;omega⟩
 · have hge:=f_lt hc;obtain rfl:i=vs.length:=by omega
   clear hc;have hix:o+((vs.length:Nat):Int).toNat*1=o+vs.length:=by omega
   obtain ⟨u1,b1,run3,e3,hu1,hb1l⟩:=zGt (A.getD (o+vs.length) 0) carry borrow (hAd.getD _) hcM hbl;refine zV (zv (zi (zL (zN (rI fun K=>mv (K1 (zG zX rfl (mv (mv (K1 (zG zX rfl (K1 (zE (b:=b) (o:=o) (ix:=((vs.length:Nat):Int)) zX rfl rfl (by omega) (by omega) ?_)))))))))))));refine K1 (zI zAR rfl hB (by rw [hix];exact zCW A (o+vs.length) (by omega)) ?_);refine mv (mv (K1 (zDZ (run3 _) rfl rfl (mv (xt rfl (xt rfl (K1 (zE (b:=b) (o:=o) (ix:=((vs.length:Nat):Int)) zX rfl rfl (by omega) (by omega) ?_))))))));refine K1 (zt zCc rfl hB rfl (by rw [hix,zAF];omega) (by decide) rfl fun w4 hX hN => ?_);refine rl K (zNl ?_);exact ⟨rfl,_,zFf rfl,_,b1,hb1l,hW.trans hX,zAj hN hix,by simp [hA],hAd.set _ hu1,fun k hk=>by rw [getD_set_ne (by omega)];exact hAk k (by omega),by rw [zKA (by omega),seg,← hAk (o+vs.length) (Or.inr (Nat.le_refl _)),Nat.pow_succ];rw [List.take_length] at hS;exact give_last hS e3⟩
end Go.Proofs.YtjiendlfobjanaaGreatDoor
namespace Go.Proofs.YtjiendlfobjanaaGreatDoor
open Go Go.RowKit Go.Proofs Tryz
variable {B N0 V X a b c e j k lo n o:Nat} {O U xs:List Nat}
theorem zEe:∀ {O:List Nat} {j:Nat} (d:Nat),j<O.length→nat64 (O.set j d)+18446744073709551616^j*O.getD j 0=nat64 O+18446744073709551616^j*d
 | [],_,_,h=>by simp at h
 | x :: O,0,d,_=>by simp [nat64];omega
 | x :: O,j+1,d,h=>by
  have ih:=zEe (O:=O) (j:=j) d (by simpa using h);simp only [List.set_cons_succ,nat64,List.getD_cons_succ,Nat.pow_succ];rw [Nat.mul_comm (18446744073709551616^j) 18446744073709551616,Nat.mul_assoc,Nat.mul_assoc];have k2:=congrArg (18446744073709551616 * ·) ih
  simp only [Nat.mul_add] at k2;omega
theorem pow64 (s:Nat):18446744073709551616^s=2^(64*s):=by
 rw [show (18446744073709551616:Nat)=2^64 from by decide,← Nat.pow_mul]
theorem zCM (k:Nat):18446744073709551616^(k/64)*2^(k%64)=2^k:=by
 rw [pow64,← Nat.pow_add,Nat.div_add_mod]
theorem zJE (h:e<64):2^(64-e)*2^e=18446744073709551616:=by
 rw [← Nat.pow_add,show 64-e+e=64 from by omega]
theorem up_digit {x:Nat} (hx:x<18446744073709551616) (he:e<64) (ho:o<2^e) :
 (o ||| x*2^e%18446744073709551616)=o+x*2^e%18446744073709551616∧o+x*2^e%18446744073709551616<18446744073709551616 ∧
 x/2^(64-e)<2^e∧x*2^e%18446744073709551616+18446744073709551616*(x/2^(64-e))=x*2^e:=by
 have hM:=zJE he;have hp:0<2^(64-e):=Nat.pow_pos (by decide);have hpe:0<2^e:=Nat.pow_pos (by decide);have hdm:=Nat.div_add_mod x (2^(64-e));have hr:=Nat.mod_lt x hp;have hxe:x*2^e=18446744073709551616*(x/2^(64-e))+x%2^(64-e)*2^e:=by
  conv=>lhs;rw [← hdm]
  rw [Nat.add_mul,Nat.mul_right_comm,hM]
 have hlt:x%2^(64-e)*2^e+2^e≤18446744073709551616:=by
  rw [← hM,← Nat.succ_mul];exact Nat.mul_le_mul_right _ hr
 have hlo:x*2^e%18446744073709551616=x%2^(64-e)*2^e:=by
  rw [hxe,Nat.mul_add_mod];exact Nat.mod_eq_of_lt (by omega)
 refine ⟨?_,?_,?_,?_⟩
 · rw [hlo,Nat.or_comm,zPB ho,Nat.add_comm]
 · rw [hlo];omega
 · rw [Nat.div_lt_iff_lt_mul hp,Nat.mul_comm,hM];exact hx
 · rw [hlo,hxe];omega
theorem down_digit {x y:Nat} (hx:x<18446744073709551616) (he:e<64) :
 (x/2^e ||| y*2^(64-e)%18446744073709551616)=x/2^e+y%2^e*2^(64-e)∧x/2^e+y%2^e*2^(64-e)<18446744073709551616 ∧
 (x/2^e+y%2^e*2^(64-e))*2^e+x%2^e=x+18446744073709551616*(y%2^e):=by
 have hM:=zJE he;have hpe:0<2^e:=Nat.pow_pos (by decide);have hp:0<2^(64-e):=Nat.pow_pos (by decide);have hq:x/2^e<2^(64-e):=by rw [Nat.div_lt_iff_lt_mul hpe,hM];exact hx
 have hlo:y*2^(64-e)%18446744073709551616=y%2^e*2^(64-e):=by
  rw [← hM,Nat.mul_comm (2^(64-e)) (2^e),Nat.mul_mod_mul_right]
 have hle:y%2^e*2^(64-e)+2^(64-e)≤18446744073709551616:=by
  rw [← hM,← Nat.succ_mul,Nat.mul_comm (2^(64-e)) (2^e)];exact Nat.mul_le_mul_right _ (Nat.mod_lt y hpe)
 refine ⟨?_,by omega,?_⟩
 · rw [hlo,Nat.or_comm,zPB hq,Nat.add_comm]
 · have h1:=Nat.div_add_mod x (2^e);rw [Nat.add_mul,Nat.mul_assoc,hM,Nat.mul_comm (y%2^e),Nat.mul_comm (x/2^e)];omega
theorem zFN (h:j<U.length):nat64 (U.drop j)=U.getD j 0+18446744073709551616*nat64 (U.drop (j+1)):=by
 rw [List.drop_eq_getElem_cons h,nat64];simp [h]
theorem nat64_drop_div (U:List Nat) (h:Dig U) (s:Nat):nat64 (U.drop s)=nat64 U/18446744073709551616^s:=by
 by_cases hs:s≤U.length
 · have h1:=zEh U s;rw [Nat.min_eq_left hs] at h1;have h2:=zCL (U.take s) (h.take s);rw [List.length_take,Nat.min_eq_left hs] at h2;rw [h1,Nat.add_mul_div_left _ _ (Nat.pow_pos (by decide)),Nat.div_eq_of_lt h2,Nat.zero_add]
 · have h2:=zCL U h;have h3:18446744073709551616^U.length≤18446744073709551616^s:=Nat.pow_le_pow_right (by decide) (by omega);rw [List.drop_eq_nil_of_le (by omega),Nat.div_eq_of_lt (by omega)];rfl
theorem zKF {x0:Nat} (h:nat64 O*2^e+x0%2^e=nat64 xs):nat64 O=nat64 xs/2^e:=by
 have hpe:0<2^e:=Nat.pow_pos (by decide);rw [← h,Nat.mul_comm,Nat.mul_add_div hpe,Nat.div_eq_of_lt (Nat.mod_lt _ hpe),Nat.add_zero]
theorem zHr (U:List Nat) (o:Nat):∀ n,seg U o (n+1)=U.getD o 0+18446744073709551616*seg U (o+1) n
 | 0=>by simp [seg]
 | n+1=>by
  have ih:=zHr U o n;rw [seg,ih,seg,Nat.pow_succ,Nat.mul_add,show o+1+n=o+(n+1) from by omega,Nat.mul_comm (18446744073709551616^n) 18446744073709551616,Nat.mul_assoc];omega
theorem zPJ (hU:Dig U) (h:seg U o (n+1)<V) (hV:V≤18446744073709551616^n):U.getD (o+n) 0=0∧seg U o n=seg U o (n+1):=by
 have h1:U.getD (o+n) 0=0:=by
  rcases Nat.eq_zero_or_pos (U.getD (o+n) 0) with h0 | h0
  · exact h0
  · have:=Nat.mul_le_mul_left (18446744073709551616^n) h0;rw [seg] at h;omega
 exact ⟨h1,by rw [seg,h1,Nat.mul_zero,Nat.add_zero]⟩
theorem guess_le {T vt g:Nat} (hX:X=lo+B*T) (hlo:lo<B) (hV:vt*B≤V) (hg:T<(g+1)*vt):X<(g+1)*V:=by
 have h1:X<B*(T+1):=by rw [hX,Nat.mul_add];omega
 have h2:B*(T+1)≤B*((g+1)*vt):=Nat.mul_le_mul_left B hg;have h3:(g+1)*(vt*B)≤(g+1)*V:=Nat.mul_le_mul_left _ hV;have h4:B*((g+1)*vt)=(g+1)*(vt*B):=by rw [Nat.mul_comm B,Nat.mul_assoc]
 omega
theorem guess_top (hn:2≤n):seg U j (n+1)=seg U j (n-1)+18446744073709551616^(n-1)*(U.getD (j+n) 0*18446744073709551616+U.getD (j+n-1) 0):=by
 obtain ⟨m,rfl⟩:∃ m,n=m+1:=⟨n-1,by omega⟩;rw [seg,seg,Nat.add_sub_cancel,show j+(m+1)-1=j+m from by omega,Nat.pow_succ,Nat.mul_add,Nat.mul_assoc,Nat.mul_comm (U.getD (j+(m+1)) 0)];omega
theorem take_res {S S' g:Nat} (h:S'+g*V=S+B*c) (hc:c≤1) (hS:S<B) (hS':S'<B) (hX:S<(g+1)*V) (hV:V≤B) :
 (c=0→S'+g*V=S∧S'<V)∧(c=1→S<g*V∧1≤g):=by
 rw [Nat.add_mul,Nat.one_mul] at hX;refine ⟨fun e => ?_,fun e => ?_⟩
 · subst e;rw [Nat.mul_zero] at h;omega
 · subst e;rw [Nat.mul_one] at h;have h1:S<g*V:=by omega
   refine ⟨h1,?_⟩;rcases Nat.eq_zero_or_pos g with h0 | h0
   · subst h0;simp at h1
   · exact h0
theorem give_res {S S' S'' g:Nat} (h:S'+g*V=S+B*1) (h2:S''+B*c=S'+g*V) (hc:c≤1) (hS:S<B) (hS'':S''<B):S''=S:=by
 rcases Nat.le_one_iff_eq_zero_or_eq_one.1 hc with e | e<;>subst e
 · omega
 · omega
theorem div_step {u0 N1 Q1 R1 S g Q0:Nat} (h0:N0=u0+18446744073709551616*N1) (h1:Q1*V+R1=N1) (hX:X=u0+18446744073709551616*R1) (hS:S+g*V=X) (hQ:Q0=g+18446744073709551616*Q1):Q0*V+S=N0:=by
 subst hQ h0 h1;rw [Nat.add_mul,Nat.mul_add,Nat.mul_assoc];omega
theorem div_end {Q R:Nat} (h:Q*(b*2^k)+R=a*2^k) (hR:R<b*2^k) (hb:0<b):Q=a/b∧R/2^k=a%b:=by
 have hp:0<2^k:=Nat.pow_pos (by decide);have hd:2^k∣R:=by
  have h1:2^k∣Q*(b*2^k)+R:=by rw [h];exact Nat.dvd_mul_left _ _
  exact (Nat.dvd_add_right ⟨Q*b,by rw [← Nat.mul_assoc,Nat.mul_comm]⟩).1 h1
 obtain ⟨r,rfl⟩:=hd;have h2:Q*b+r=a:=by
  have h3:2^k*(Q*b+r)=2^k*a:=by
   rw [Nat.mul_add,Nat.mul_comm (2^k) (Q*b),Nat.mul_assoc,h,Nat.mul_comm]
  exact Nat.eq_of_mul_eq_mul_left hp h3
 have h4:r<b:=by
  rw [Nat.mul_comm b] at hR;exact Nat.lt_of_mul_lt_mul_left hR
 rw [Nat.mul_div_cancel_left r hp];have h5:=Nat.div_mod_unique (b:=b) (a:=a) (c:=r) (d:=Q) hb |>.2 ⟨by rw [Nat.mul_comm];omega,h4⟩;exact ⟨h5.1.symm,h5.2.symm⟩
end Go.Proofs.YtjiendlfobjanaaGreatDoor
namespace Go.Proofs.YtjiendlfobjanaaGreatDoor
open Go Go.RowKit Go.Proofs Tryz
set_option maxRecDepth 10000
set_option maxHeartbeats 2000000
attribute [local irreducible] Runs WPE CallK Ret
variable {N ca cap e i k n s sz':Nat} {O ds xs:List Nat} {pa:Option Addr} {v:Value} {w w':World}
theorem up_step (hO:O.length=N) (hN:xs.length+k/64+1=N) (hOd:Dig O) (hxd:Dig xs) (hi:i<xs.length)
 (hn:nat64 O=nat64 (xs.take i)*2^k) (hlo:O.getD (i+k/64) 0<2^(k%64)) (hz:∀ j,i+k/64<j→O.getD j 0=0) :
 ∃ lo hi,O.getD (i+k/64) 0 ||| (xs.getD i 0*2^(k%64)%18446744073709551616)=lo∧lo<18446744073709551616∧xs.getD i 0/2^(64-k%64)=hi∧hi<18446744073709551616 ∧
  Dig ((O.set (i+k/64) lo).set (i+k/64+1) hi)∧nat64 ((O.set (i+k/64) lo).set (i+k/64+1) hi)=nat64 (xs.take (i+1))*2^k ∧
  ((O.set (i+k/64) lo).set (i+k/64+1) hi).getD (i+1+k/64) 0<2^(k%64)∧(∀ j,i+1+k/64<j→((O.set (i+k/64) lo).set (i+k/64+1) hi).getD j 0=0):=by
 have he:k%64<64:=Nat.mod_lt _ (by decide);have hx:=hxd.getD i;obtain ⟨d1,d2,d3,d4⟩:=up_digit hx he hlo;have h2e:2^(k%64)≤18446744073709551616:=by
  rw [show (18446744073709551616:Nat)=2^64 from by decide];exact Nat.pow_le_pow_right (by decide) (by omega)
 refine ⟨_,_,d1,d2,rfl,by omega,(hOd.set _ d2).set _ (by omega),?_,?_,?_⟩
 all_goals clear d1
 all_goals generalize xs.getD i 0*2^(k%64)%18446744073709551616=l0 at *
 all_goals generalize xs.getD i 0/2^(64-k%64)=hi at *
 · have s1:=zEe (O:=O) (j:=i+k/64) (O.getD (i+k/64) 0+l0) (by omega);have s2:=zEe (O:=O.set (i+k/64) (O.getD (i+k/64) 0+l0)) (j:=i+k/64+1) hi (by simp;omega);rw [getD_set_ne (by omega),hz (i+k/64+1) (by omega),Nat.mul_zero,Nat.add_zero] at s2;rw [s2,nat64_take_succ',Nat.add_mul,← hn];have e:18446744073709551616^i*xs.getD i 0*2^k=18446744073709551616^(i+k/64)*(xs.getD i 0*2^(k%64)):=by
    rw [← zCM k,Nat.pow_add];simp only [Nat.mul_assoc,Nat.mul_left_comm,Nat.mul_comm]
   rw [e,← d4,Nat.mul_add,Nat.pow_succ,Nat.mul_assoc (18446744073709551616^(i+k/64))];rw [Nat.mul_add] at s1;omega
 · rw [show i+1+k/64=i+k/64+1 from by omega,zBc (by simp;omega)];exact d3
 · intro j hj;rw [getD_set_ne (by omega),getD_set_ne (by omega)];exact hz j (by omega)
theorem down_step (hO:O.length=xs.length) (hOd:Dig O) (hxd:Dig xs) (he:e<64) (hi:i<xs.length)
 (hn:nat64 (O.take i)*2^e+xs.getD 0 0%2^e=nat64 (xs.take i)+18446744073709551616^i*(xs.getD i 0%2^e)) :
 ∃ d,(xs.getD i 0/2^e ||| xs.getD (i+1) 0*2^(64-e)%18446744073709551616)=d∧d<18446744073709551616∧xs.getD i 0/2^e<18446744073709551616 ∧
  Dig (O.set i d)∧nat64 ((O.set i d).take (i+1))*2^e+xs.getD 0 0%2^e=nat64 (xs.take (i+1))+18446744073709551616^(i+1)*(xs.getD (i+1) 0%2^e):=by
 have hx:=hxd.getD i;obtain ⟨d1,d2,d3⟩:=down_digit (y:=xs.getD (i+1) 0) hx he;refine ⟨_,rfl,by rw [d1];exact d2,Nat.lt_of_le_of_lt (Nat.div_le_self _ _) hx,hOd.set _ (by rw [d1];exact d2),?_⟩;rw [d1];generalize xs.getD i 0/2^e+xs.getD (i+1) 0%2^e*2^(64-e)=D at *;rw [nat64_take_succ',zBc (by omega),List.take_set_of_le (by omega),nat64_take_succ',Nat.pow_succ];have k2:18446744073709551616^i*(D*2^e+xs.getD i 0%2^e)=18446744073709551616^i*(xs.getD i 0+18446744073709551616*(xs.getD (i+1) 0%2^e)):=by rw [d3]
 rw [Nat.add_mul,Nat.mul_assoc (18446744073709551616^i),Nat.mul_assoc (18446744073709551616^i)];simp only [Nat.mul_add] at k2 ⊢;omega
def UpR (sz:Nat) (xs:List Nat) (k:Nat) (v:Value) (w:World):Prop:=∃ ob ds O,v = .slice (some ⟨ob,0,none⟩) ds.length (xs.length+k/64+1)∧ds.length≤xs.length+k/64+1∧Rd w (some ⟨ob,0,none⟩) ds∧Norm ds∧nat64 ds=nat64 xs*2^k∧sz≤ob∧Blk w ob 164 (dv O)∧O.length=xs.length+k/64+1
theorem UpR.ext {sz:Nat} (h:UpR sz xs k v w) (hx:Ext w w'):UpR sz xs k v w':=by
 obtain ⟨ob,ds,O,h1,h2,h3,h4,h5,h6,h7,h8⟩:=h;exact ⟨ob,ds,O,h1,h2,h3.ext hx,h4,h5,h6,h7.ext hx,h8⟩
theorem UpR.sz {sz:Nat} (h:UpR sz xs k v w) (hs:sz'≤sz):UpR sz' xs k v w:=by
 obtain ⟨ob,ds,O,h1,h2,h3,h4,h5,h6,h7,h8⟩:=h;exact ⟨ob,ds,O,h1,h2,h3,h4,h5,by omega,h7,h8⟩
theorem cut_shape {p:Option Addr} (hn:ds.length=n) (hcap:n≤cap) (hrd:Rd w p ds) (hdig:Dig ds) (hbig:n<4611686018427387904) :
 Ret prog 194 #[.slice p n cap] w (fun v w'=>∃ es,v = .slice p es.length cap∧es.length≤n∧Rd w' p es∧Norm es∧nat64 es=nat64 ds):=by
 subst hn;exact (zMJ hcap hrd hdig hbig).mono fun v w' hx ⟨k,hk,hv,hn,he⟩=>⟨ds.take k,by rw [hv];simp [Nat.min_eq_left hk],by simp;omega,(hrd.ext hx).take k,hn,he⟩
theorem up_ok (ha:Rd w pa xs) (hx:Dig xs) (hl:xs.length≤4398046511104) (hk:k≤70368744177664):Ret prog 267 #[.slice pa xs.length ca,.int .i64 (k:Int)] w (fun v w'=>UpR w.heap.size xs k v w'):=by
 have E0:Ext w w:=Ext.refl w;refine J0 50 func267 rfl (rj fun K=>ag (rm [0,1] K ?_));refine rJ fun K=>K1 (zG zX rfl (mv (K1 (zAp (b:=64) (k/64) rfl rfl (by decide) rfl (by omega) (K1 (za (xs.length+k/64) rfl rfl rfl (by omega) (K1 (za (b:=1) (xs.length+k/64+1) rfl rfl rfl (by omega) ?_))))))));refine K1 (zAJ zDf zGI rfl rfl rfl (by omega) (by omega) (by omega) fun ob w1 hb1 hE hB hs => ?_);have hgb:w.heap.size≤ob:=Nat.le_of_eq hb1.symm;replace E0:=E0.trans hE;clear hE hs hb1;rw [show ((xs.length+k/64+1:Nat):Int).toNat=xs.length+k/64+1 from by omega,show (Value.int IntKind.u64 0).cells.toList=[Value.int IntKind.u64 0] from rfl,zAk] at hB;refine ag (rm [0,1,5] K ?_);refine zA (rJ fun K=>K1 (zG zX rfl (mv (rm [0,1,5,15,16,17] K ?_))));refine zD ?_
 refine ze (X:=Nat) (fun i ρ w'=>Keep ρ [(0,.slice pa xs.length ca),(1,.int .i64 (k:Nat)),(5,.slice (some ⟨ob,0,none⟩) (xs.length+k/64+1) (xs.length+k/64+1)),(15,.slice pa xs.length ca),(16,.int .i64 (xs.length:Nat)),(17,.int .i64 (i:Nat))]∧i≤xs.length∧Ext w w'∧∃ O,O.length=xs.length+k/64+1∧Dig O∧nat64 O=nat64 (xs.take i)*2^k∧O.getD (i+k/64) 0<2^(k%64)∧(∀ j,i+k/64<j→O.getD j 0=0)∧Blk w' ob 164 (dv O)) (fun i=>xs.length-i) 0 ⟨(kp rfl),Nat.zero_le _,E0,List.replicate (xs.length+k/64+1) 0,by simp,zBr _,by rw [zEq];simp [nat64],by rw [zEV];exact Nat.pow_pos (by decide),fun _ _=>zEV _ _,hB⟩ ?_;clear E0 hB;rintro i ρ1 w1 ⟨hk,hil,E0,O,hO,hOd,hOn,hOl,hOz,hB⟩;refine wpe_k _ hk ?_;clear hk ρ1;refine rj fun K=>K8 rfl (rm [0,1,5,15,16,17,18] K ?_);refine zA ?_;refine K0 rfl ?_ ?_<;>intro hc
 · have hlt:i<xs.length:=t_lt hc;clear hc;obtain ⟨b2,o2,cs2,hpa,hB2,hv2⟩:=(ha.ext E0) i hlt;obtain ⟨lo,hi,e1,e2,e3,e4,e5,e6,e7,e8⟩:=up_step hO rfl hOd hx hlt hOn hOl hOz;have hix:(0:Nat)+(((i+k/64:Nat):Nat):Int).toNat*1=i+k/64:=by omega
   have he64:k%64<64:=Nat.mod_lt _ (by decide);refine sk (zA (zD (rJ fun K=>K1 (zE (b:=b2) (o:=o2) zX (congrArg (fun p=>Value.slice p xs.length ca) hpa) rfl (by omega) (by omega) (K1 (zI zAR rfl hB2 (by simpa using hv2) (ag (ag (rm [0,1,5,6,7,15,16,17] K ?_)))))))));refine zA (zGu ob mixed rfl rfl rfl hB fun K hK=>qs rfl (fun wx hE=>zC ⟨rfl,Ext.refl _⟩) (qs rfl (fun wx hE=>zC ⟨rfl,Ext.refl _⟩) (qs rfl (fun wx hE=>zC ⟨rfl,Ext.refl _⟩) (qs rfl (fun wx hE=>zAp (b:=64) (k/64) rfl rfl (by decide) rfl (by omega) ⟨rfl,Ext.refl _⟩) (qs rfl (fun wx hE=>za (i+k/64) rfl rfl rfl (by omega) ⟨rfl,Ext.refl _⟩) (qs rfl (fun wx hE=>zE (b:=ob) (o:=0) (ix:=((i+k/64:Nat):Int)) zX rfl rfl (by omega) (by omega) ⟨rfl,Ext.refl _⟩) ?_))))));refine qs rfl (fun wx hE=>zI zAR rfl (hB.ext hE) (by rw [hix];exact zCW O (i+k/64) (by omega)) ⟨rfl,Ext.refl _⟩) ?_
   refine qs rfl (fun wx hE=>zC ⟨rfl,Ext.refl _⟩) (qs rfl (fun wx hE=>zC ⟨rfl,Ext.refl _⟩) (qs rfl (fun wx hE=>zAP (b:=64) (k%64) rfl rfl (by decide) rfl ⟨rfl,Ext.refl _⟩) (qs rfl (fun wx hE=>zFL (xs.getD i 0*2^(k%64)%18446744073709551616) rfl rfl (Nat.le_of_lt he64) rfl ⟨rfl,Ext.refl _⟩) (qs rfl (fun wx hE=>zKk (lo) rfl rfl (hOd.getD _) (Nat.mod_lt _ (by decide)) e1 ⟨rfl,Ext.refl _⟩) (qs rfl (fun wx hE=>zE (b:=ob) (o:=0) (ix:=((i+k/64:Nat):Int)) zX rfl rfl (by omega) (by omega) ⟨rfl,Ext.refl _⟩) ?_)))));refine zMr (dv (O.set (i+k/64) lo)) (fun wx hE hBx=>zt zCc rfl hBx rfl (by rw [hix,zAF];omega) (by decide) rfl fun w3 hU hN=>⟨hU,zAj hN hix⟩) (hK _ _ fun wq hS hN => ?_);replace E0:=E0.updS hS hgb;clear hS hB;have hB:=hN;clear hN;refine zN (K5 [0,1,5,6,7,15,16,17] ?_);refine rI fun K=>mv (mv (K1 (zAp (b:=64) (k/64) rfl rfl (by decide) rfl (by omega) (K1 (za (i+k/64) rfl rfl rfl (by omega) (K1 (za (b:=1) (i+k/64+1) rfl rfl rfl (by omega) (mv (mv (K1 (zAP (b:=64) (k%64) rfl rfl (by decide) rfl (K1 (zAM (a:=64) (64-k%64) rfl rfl (by omega) (by decide) (K1 (zEQ (hi) rfl rfl (by omega) e3 (K1 (zE (b:=ob) (o:=0) (ix:=((i+k/64+1:Nat):Int)) zX rfl rfl (by omega) (by omega) ?_)))))))))))))))))
   have hix2:(0:Nat)+(((i+k/64+1:Nat):Nat):Int).toNat*1=i+k/64+1:=by omega
   refine K1 (zt zCc rfl hB rfl (by rw [hix2,zAF];simp;omega) (by decide) rfl fun w4 hU hN => ?_);rw [hix2] at hN;replace E0:=E0.upd hU hgb;refine rl K (zS (zN (K5 [0,1,5,15,16,17] ?_)));exact K6 fun K=>K8 rfl (mv (rl K (zP (⟨rfl,i+1,⟨⟨rfl,rfl,rfl,rfl,rfl,rfl,rfl,rfl,rfl,rfl,rfl,congrArg (Value.int .i64) (zx (by omega)),trivial⟩,by omega,E0,_,by simp [hO],e5,e6,e7,e8,zAj hN rfl⟩,by omega⟩))))
 · have hge:=f_lt hc;obtain rfl:i=xs.length:=by omega
   clear hc;rw [List.take_length] at hOn;refine zV (zv (zi (zL (zN (rJ fun K=>K1 (j1 E0 hB.ext hb194 (cut_shape hO (Nat.le_refl _) (Rd.of_blk hB) hOd (by omega)) fun v8_1 w1 E0 hB hr => ?_))))));obtain ⟨ds,rfl,hd1,hd2,hd3,hd4⟩:=hr;refine ag (rm [0,1,4,5,15,16,17] K ?_);exact zB (en rfl E0 ⟨ob,ds,O,rfl,hd1,hd2,hd3,by rw [hd4,hOn],hgb,hB,hO⟩)
theorem zDi (h:xs.length≤i):xs.getD i 0=0:=by
 simp [List.getElem?_eq_none h]
theorem IsW.nil (h:n=0):IsW w (.slice none 0 0) n:=⟨none,[],0,rfl,Nat.le_refl _,fun i hi=>by simp at hi,⟨fun d hd=>by simp at hd,by simp⟩,by rw [h];rfl⟩
theorem zIP (hd:Dig ds) (h:ds.length≤k/64):nat64 ds/2^k=0:=by
 have h1:=zCL ds hd;have h2:=zCM k;have h3:18446744073709551616^ds.length≤18446744073709551616^(k/64):=Nat.pow_le_pow_right (by decide) h;have h4:1≤2^(k%64):=Nat.pow_pos (by decide);have h5:=Nat.mul_le_mul_left (18446744073709551616^(k/64)) h4;rw [h2] at h5;exact Nat.div_eq_of_lt (by omega)
theorem zKM:n/18446744073709551616^(k/64)/2^(k%64)=n/2^k:=by
 rw [Nat.div_div_eq_div_mul,zCM]
theorem zMV (ha:Rd w pa ds) (hx:Norm ds) (hca:ds.length≤ca) (hs:s<ds.length) :
 ∃ xs pb cb,ds.length-s=xs.length∧Value.slice (if ca=s then pa else pa.map (fun a=>a.add (s*1))) (ds.length-s) (ca-s)=Value.slice pb xs.length cb∧Rd w pb xs∧Dig xs∧nat64 xs=nat64 ds/18446744073709551616^s:=by
 refine ⟨ds.drop s,if ca=s then pa else pa.map (fun a=>a.add (s*1)),ca-s,by simp,by simp,?_,hx.1.drop s,nat64_drop_div ds hx.1 s⟩;intro i hi;rw [List.length_drop] at hi;obtain ⟨b,o,cs,h1,h2,h3⟩:=ha (s+i) (by omega);refine ⟨b,o+s,cs,?_,h2,?_⟩
 · rw [if_neg (by omega),h1];simp [zAu]
 · rw [show o+s+i=o+(s+i) from by omega,h3];simp
theorem down_ok {x:Value} (hxw:IsW w x n) (hl:n.log2<17592186044416) (hk:k≤70368744177664):Ret prog 271 #[x,.int .i64 (k:Int)] w (fun v w'=>IsW w' v (n/2^k)):=by
 obtain ⟨pa,ds,ca,rfl,hca,ha,hx,hxv⟩:=hxw;subst hxv;have hlx:=hx.len_le hl;have E0:Ext w w:=Ext.refl w;refine J0 57 func271 rfl (rj fun K=>ag (rm [0,1] K ?_));refine zA (rJ fun K=>K1 (zAp (b:=64) (k/64) rfl rfl (by decide) rfl (by omega) (mv (K1 (zG zX rfl (K8 rfl (rm [0,1,12] K ?_)))))));refine K0 rfl ?_ ?_<;>intro hc
 · have hge:ds.length≤k/64:=by have:=of_decide_eq_true hc;omega
   clear hc;refine rj fun K=>ag (rm [0,1,4] K ?_);exact zB (zU (en rfl E0 (IsW.nil (zIP hx.1 hge))))
 · have hlt:k/64<ds.length:=by have:=of_decide_eq_false hc;omega
   clear hc;obtain ⟨xs,pb,cb,hxl,hpb,hxr,hxd,hxv⟩:=zMV ha hx hca hlt;refine sk (rJ fun K=>mv (K1 (zAp (b:=64) (k/64) rfl rfl (by decide) rfl (by omega) (K1 (zDt zX rfl rfl (by omega) (by omega) ?_)))));rw [show ((k/64:Nat):Int).toNat=k/64 from by omega,hpb];refine ag (rm [0,1] K ?_);refine rJ fun K=>K1 (zG zX rfl ?_);refine K1 (zAJ zDf zGI rfl rfl rfl (by omega) (by omega) (by omega) fun ob w1 hb1 hE hB hs => ?_);have hgb:w.heap.size≤ob:=Nat.le_of_eq hb1.symm;replace E0:=E0.trans hE;clear hE hs hb1;rw [show ((xs.length:Nat):Int).toNat=xs.length from by omega,show (Value.int IntKind.u64 0).cells.toList=[Value.int IntKind.u64 0] from rfl,zAk] at hB;refine ag (rm [0,1,5] K ?_);refine zA (rJ fun K=>K1 (zG zX rfl (mv (rm [0,1,5,20,21,22] K ?_))))
   refine zD (ze (X:=Nat) (fun i ρ w'=>Keep ρ [(0,.slice pb xs.length cb),(1,.int .i64 (k:Nat)),(5,.slice (some ⟨ob,0,none⟩) xs.length xs.length),(20,.slice pb xs.length cb),(21,.int .i64 (xs.length:Nat)),(22,.int .i64 (i:Nat))]∧i≤xs.length∧Ext w w'∧∃ O,O.length=xs.length∧Dig O∧nat64 (O.take i)*2^(k%64)+xs.getD 0 0%2^(k%64)=nat64 (xs.take i)+18446744073709551616^i*(xs.getD i 0%2^(k%64))∧Blk w' ob 164 (dv O)) (fun i=>xs.length-i) 0 ⟨(kp rfl),Nat.zero_le _,E0,List.replicate xs.length 0,by simp,zBr _,by simp [nat64],hB⟩ ?_);clear E0 hB;rintro i ρ1 w1 ⟨hk,hil,E0,O,hO,hOd,hOn,hB⟩;refine wpe_k _ hk ?_;clear hk ρ1;refine rj fun K=>K8 rfl (rm [0,1,5,20,21,22,23] K ?_);refine zA ?_;refine K0 rfl ?_ ?_<;>intro hc
   · have hlt2:i<xs.length:=t_lt hc;clear hc;obtain ⟨b2,o2,cs2,hpa,hB2,hv2⟩:=(hxr.ext E0) i hlt2;have he64:k%64<64:=Nat.mod_lt _ (by decide);obtain ⟨d,e1,e2,e3,e4,e5⟩:=down_step hO hOd hxd he64 hlt2 hOn;have hix:(0:Nat)+((i:Nat):Int).toNat*1=i:=by omega
     refine sk (zA (zD (rJ fun K=>K1 (zE (b:=b2) (o:=o2) zX (congrArg (fun p=>Value.slice p xs.length cb) hpa) rfl (by omega) (by omega) (K1 (zI zAR rfl hB2 (by simpa using hv2) (ag (ag (rm [0,1,5,6,7,20,21,22] K ?_)))))))));refine rJ fun K=>mv (mv (mv (K1 (zAP (b:=64) (k%64) rfl rfl (by decide) rfl (K1 (zEQ (xs.getD i 0/2^(k%64)) rfl rfl (Nat.le_of_lt he64) rfl (K1 (zE (b:=ob) (o:=0) (ix:=((i:Nat):Int)) zX rfl rfl (by omega) (by omega) ?_))))))));refine K1 (zt zCc rfl hB rfl (by rw [hix,zAF];omega) (by decide) rfl fun w4 hU hN => ?_);rw [hix] at hN;replace E0:=E0.upd hU hgb;clear hB;have hB:=zAj hN rfl;clear hN hU;refine rm [0,1,5,6,20,21,22] K ?_;refine rJ fun K=>K1 (za (b:=1) (i+1) rfl rfl rfl (by omega) (mv (K1 (zG zX rfl (K8 rfl (rm [0,1,5,6,20,21,22,38] K ?_))))));refine K0 rfl ?_ ?_<;>intro hc
     · have hlt3:i+1<xs.length:=t_lt hc;clear hc;obtain ⟨b3,o3,cs3,hpb3,hB3,hv3⟩:=(hxr.ext E0) (i+1) hlt3;have hix2:((i+1:Nat):Int).toNat*1=i+1:=by omega
       refine zGu ob mixed rfl rfl rfl hB fun K hK=>qs rfl (fun wx hE=>zC ⟨rfl,Ext.refl _⟩) (qs rfl (fun wx hE=>zC ⟨rfl,Ext.refl _⟩) (qs rfl (fun wx hE=>zE (b:=ob) (o:=0) (ix:=((i:Nat):Int)) zX rfl rfl (by omega) (by omega) ⟨rfl,Ext.refl _⟩) ?_));refine qs rfl (fun wx hE=>zI zAR rfl (hB.ext hE) (by rw [hix];exact (zCW _ i (by simp;omega)).trans (congrArg (fun z:Nat=>some (Value.int .u64 (z:Int))) (zBc (by omega)))) ⟨rfl,Ext.refl _⟩) ?_;refine qs rfl (fun wx hE=>zC ⟨rfl,Ext.refl _⟩) (qs rfl (fun wx hE=>zC ⟨rfl,Ext.refl _⟩) (qs rfl (fun wx hE=>za (b:=1) (i+1) rfl rfl rfl (by omega) ⟨rfl,Ext.refl _⟩) (qs rfl (fun wx hE=>zE (b:=b3) (o:=o3) (ix:=((i+1:Nat):Int)) zX (congrArg (fun p=>Value.slice p xs.length cb) hpb3) rfl (by omega) (by omega) ⟨rfl,Ext.refl _⟩) ?_)));refine qs rfl (fun wx hE=>zI zAR rfl (hB3.ext hE) (by rw [hix2];exact hv3) ⟨rfl,Ext.refl _⟩) ?_
       refine qs rfl (fun wx hE=>zC ⟨rfl,Ext.refl _⟩) (qs rfl (fun wx hE=>zAP (b:=64) (k%64) rfl rfl (by decide) rfl ⟨rfl,Ext.refl _⟩) (qs rfl (fun wx hE=>zAM (a:=64) (64-k%64) rfl rfl (by omega) (by decide) ⟨rfl,Ext.refl _⟩) (qs rfl (fun wx hE=>zFL (xs.getD (i+1) 0*2^(64-k%64)%18446744073709551616) rfl rfl (by omega) rfl ⟨rfl,Ext.refl _⟩) (qs rfl (fun wx hE=>zKk (d) rfl rfl e3 (Nat.mod_lt _ (by decide)) e1 ⟨rfl,Ext.refl _⟩) (qs rfl (fun wx hE=>zE (b:=ob) (o:=0) (ix:=((i:Nat):Int)) zX rfl rfl (by omega) (by omega) ⟨rfl,Ext.refl _⟩) ?_)))));refine zMr (dv ((O.set i (xs.getD i 0/2^(k%64))).set i d)) (fun wx hE hBx=>zt zCc rfl hBx rfl (by rw [hix,zAF];simp;omega) (by decide) rfl fun w3 hU hN=>⟨hU,zAj hN hix⟩) (hK _ _ fun wq hS hN => ?_);replace E0:=E0.updS hS hgb;clear hS hB;have hB:=hN;clear hN;rw [List.set_set] at hB;refine zS (zN (K5 [0,1,5,20,21,22] ?_));exact K6 fun K=>K8 rfl (mv (rl K (zP (⟨rfl,i+1,⟨⟨rfl,rfl,rfl,rfl,rfl,rfl,rfl,rfl,rfl,rfl,rfl,congrArg (Value.int .i64) (zx (by omega)),trivial⟩,by omega,E0,_,by simp [hO],e4,e5,hB⟩,by omega⟩))))
     · have hge3:=f_lt hc;clear hc;rw [zDi hge3,Nat.zero_mul,Nat.zero_mod,Nat.or_zero] at e1;subst e1;exact zm (zS (zN (K6 fun K=>K8 rfl (mv (rl K (zP (⟨rfl,i+1,⟨⟨rfl,rfl,rfl,rfl,rfl,rfl,rfl,rfl,rfl,rfl,rfl,congrArg (Value.int .i64) (zx (by omega)),trivial⟩,by omega,E0,_,by simp [hO],e4,e5,hB⟩,by omega⟩)))))))
   · have hge:=f_lt hc;obtain rfl:i=xs.length:=by omega
     clear hc;rw [List.take_length,zDi (Nat.le_refl _),Nat.zero_mod,Nat.mul_zero,Nat.add_zero,List.take_of_length_le (by omega)] at hOn;refine zV (zv (zi (zL (zN (rJ fun K=>K1 (j0 E0 hb194 (zEl hO (Nat.le_refl _) (Rd.of_blk hB) hOd (by omega)) fun v12_1 w1 E0 hr => ?_))))));refine ag (rm [0,1,4,5,20,21,22] K ?_);refine zB (zQ ?_);rw [zKF hOn,hxv,zKM] at hr;exact ⟨rfl,_,zg rfl rfl,E0,hr⟩
variable {a b c hi len lo o:Nat} {P:Program} {T:TypeId} {U ys:List Nat} {a' b':Value} {cs:List Value} {f:FuncId}
theorem CallK.eq1 {a:Value} {K:Value→World→Prop} (h:a=a') (hk:CallK P f #[a'] w K):CallK P f #[a] w K:=by rw [h];exact hk
theorem CallK.eq2 {a b:Value} {K:Value→World→Prop} (h:a=a') (h2:b=b') (hk:CallK P f #[a',b'] w K):CallK P f #[a,b] w K:=by rw [h,h2];exact hk
theorem CallK.eq3 {a b c c':Value} {K:Value→World→Prop} (h:a=a') (h2:b=b') (h3:c=c') (hk:CallK P f #[a',b',c'] w K):CallK P f #[a,b,c] w K:=by rw [h,h2,h3];exact hk
theorem Rd.cells {p:Option Addr} (h:Rd w p ds):Cells w p 164 (dv ds):=by
 by_cases h0:ds=[]
 · exact .inl (by rw [h0];rfl)
 · have hl:0<ds.length:=List.length_pos_iff.2 h0;obtain ⟨b,o,cs,h1,h2,h3⟩:=h 0 hl;refine .inr ⟨b,o,cs,h1,h2,?_⟩;apply List.ext_getElem?;intro i;rw [List.getElem?_take,zAF];by_cases hi:i<ds.length
   · rw [if_pos hi,List.getElem?_drop];obtain ⟨b',o',cs',k1,k2,k3⟩:=h i hi;rw [h1] at k1;cases k1;obtain ⟨_,rfl⟩:=h2.inj k2;rw [k3,zCW ds i hi]
   · rw [if_neg hi,List.getElem?_eq_none (by rw [zAF];omega)]
theorem Cells.blk (h:Blk w b T cs):Cells w (some ⟨b,0,none⟩) T cs := .inr ⟨b,0,cs,rfl,h,by simp⟩
theorem zLT (a b:List Nat):dv (a++b)=dv a++dv b:=by simp [dv]
theorem dv_rep (n:Nat):List.replicate n (Value.int .u64 0)=dv (List.replicate n 0):=by simp [dv]
theorem Norm.lenlo (h:Norm ds) (h1:18446744073709551616^n≤nat64 ds):n<ds.length:=by
 have h2:=zCL ds h.1;exact (Nat.pow_lt_pow_iff_right (by decide:1<18446744073709551616)).1 (by omega:18446744073709551616^n<18446744073709551616^ds.length)
theorem Norm.lenhi (h:Norm ds) (h1:nat64 ds<18446744073709551616^n):ds.length≤n:=by
 by_cases h0:ds=[]
 · simp [h0]
 · have h2:=h.lo h0;have:=(Nat.pow_lt_pow_iff_right (by decide:1<18446744073709551616)).1 (by omega:18446744073709551616^(ds.length-1)<18446744073709551616^n);omega
def AppR (sz:Nat) (xs:List Nat) (k:Nat) (len:Nat) (v:Value) (w:World):Prop:=∃ ub es c,v = .slice (some ⟨ub,0,none⟩) (len+(if len=0 then es.length+2 else 0)) c∧xs.length+2≤c∧es.length+2≤c∧Norm es∧xs.length≤es.length∧nat64 es=nat64 xs*2^k∧sz≤ub∧Blk w ub 164 (dv (es++[0,0]++List.replicate (c-(es.length+2)) 0))
theorem AppR.ext {sz:Nat} (h:AppR sz xs k len v w) (hx:Ext w w'):AppR sz xs k len v w':=by
 obtain ⟨ub,es,c,h1,h2,h3,h4,h5,h6,h7,h8⟩:=h;exact ⟨ub,es,c,h1,h2,h3,h4,h5,h6,h7,h8.ext hx⟩
def TwoR (v:Value) (w:World):Prop:=∃ b,v = .slice (some ⟨b,0,none⟩) 2 2∧Blk w b 164 (dv [0,0])
theorem TwoR.ext (h:TwoR v w) (hx:Ext w w'):TwoR v w':=by
 obtain ⟨b,h1,h2⟩:=h;exact ⟨b,h1,h2.ext hx⟩
def GuR (hi lo y:Nat) (v:Value):Prop:=∃ q r:Nat,v = .tuple #[.int .u64 (q:Int),.int .u64 (r:Int)]∧q*y+r=hi*18446744073709551616+lo∧r<y∧q<18446744073709551616
def GuQ (hi lo y:Nat) (v:Value):Prop:=∃ q:Nat,v = .int .u64 (q:Int)∧hi*18446744073709551616+lo<(q+1)*y∧q<18446744073709551616
theorem GuR.q {y:Nat} (h:GuR hi lo y v):∃ a b,v = .tuple #[a,b]∧GuQ hi lo y a:=by
 obtain ⟨q,r,h1,h2,h3,h4⟩:=h;exact ⟨_,_,h1,q,rfl,by rw [Nat.add_mul,Nat.one_mul,← h2];omega,h4⟩
theorem zIl (es:List Nat) (n:Nat):nat64 (es++[0,0]++List.replicate n 0)=nat64 es:=by
 rw [zBN,zBN,zEq];simp [nat64]
theorem Dig.app {a b:List Nat} (ha:Dig a) (hb:Dig b):Dig (a++b):=fun d hd=>by
 rcases List.mem_append.1 hd with h | h
 · exact ha d h
 · exact hb d h
theorem zKp (U:List Nat):∀ (n o:Nat),nat64 (U.drop o)=seg U o n+18446744073709551616^n*nat64 (U.drop (o+n))
 | 0,o=>by simp [seg]
 | n+1,o=>by
  rw [zHr,Nat.pow_succ,Nat.mul_comm (18446744073709551616^n),Nat.mul_assoc,show o+(n+1)=o+1+n from by omega];by_cases ho:o<U.length
  · rw [zFN ho,zKp U n (o+1),Nat.mul_add];omega
  · have e1:U.drop o=[]:=List.drop_eq_nil_of_le (by omega);have e2:=zKp U n (o+1);rw [List.drop_eq_nil_of_le (by omega:U.length≤o+1)] at e2;rw [e1,zDi (by omega)];simp only [nat64] at e2 ⊢;omega
theorem zOY (h:nat64 (U.drop o)<18446744073709551616^n):seg U o n=nat64 (U.drop o):=by
 have h1:=zKp U n o;have h2:nat64 (U.drop (o+n))=0:=by
  rcases Nat.eq_zero_or_pos (nat64 (U.drop (o+n))) with h0 | h0
  · exact h0
  · have:=Nat.mul_le_mul_left (18446744073709551616^n) h0;omega
 rw [h1,h2,Nat.mul_zero,Nat.add_zero]
theorem zKB (U:List Nat):∀ n,seg U 0 n=nat64 (U.take n)
 | 0=>by simp [seg,nat64]
 | n+1=>by rw [seg,zKB U n,nat64_take_succ',Nat.zero_add]
theorem log2_dig {L:Nat} (h:Dig ds) (hl:ds.length≤N) (hL:64*N<L):(nat64 ds).log2<L:=by
 by_cases h0:nat64 ds=0
 · rw [h0];show 0<L;omega
 · rw [Nat.log2_lt h0];have h1:=zCL ds h;rw [pow64] at h1;exact Nat.lt_of_lt_of_le h1 (Nat.pow_le_pow_right (by decide) (by omega))
theorem div_init {vs es:List Nat} (hx:Norm xs) (hy:Norm ys) (hn:2≤ys.length) (hge:nat64 ys≤nat64 xs) (hs:s<64)
 (h1:ys.getD (ys.length-1) 0*2^s<18446744073709551616) (hv:Norm vs) (hvn:nat64 vs=nat64 ys*2^s) (he:nat64 es=nat64 xs*2^s) :
 vs.length=ys.length∧ys.length≤xs.length∧nat64 vs<18446744073709551616^ys.length∧nat64 ((es++[0,0]++List.replicate c 0).drop (xs.length-ys.length+1))<nat64 vs∧nat64 vs≠0:=by
 have hy0:ys≠[]:=by rintro rfl;simp at hn
 have hlo:=hy.lo hy0;have hxl:ys.length≤xs.length:=by
  rcases Nat.lt_or_ge xs.length ys.length with h | h
  · have:=Norm.len_lt hx.1 hy h;omega
  · exact h
 have hp:1≤2^s:=Nat.pow_pos (by decide);have hylt:nat64 ys*2^s<18446744073709551616^ys.length:=by
  obtain ⟨m,hm⟩:∃ m,ys.length=m+1:=⟨ys.length-1,by omega⟩;have t1:ys.take (m+1)=ys:=List.take_of_length_le (by omega);have t2:=nat64_take_succ' ys m;rw [t1] at t2;have t3:=zCL (ys.take m) (hy.1.take m);rw [List.length_take,Nat.min_eq_left (by omega)] at t3;rw [hm,Nat.add_sub_cancel] at h1;rw [t2,hm,Nat.pow_succ,Nat.add_mul,Nat.mul_assoc];have d1:ys.getD m 0*2^s+2^s≤18446744073709551616:=by
   rw [← Nat.succ_mul];have e:(18446744073709551616:Nat)=2^(64-s)*2^s:=(zJE hs).symm;rw [e] at h1 ⊢;exact Nat.mul_le_mul_right _ (Nat.lt_of_mul_lt_mul_right h1)
  have d2:=Nat.mul_le_mul_left (18446744073709551616^m) d1;have d3:=Nat.mul_lt_mul_of_pos_right t3 (show 0<2^s from hp);rw [Nat.mul_add] at d2;omega
 have hvlo:18446744073709551616^(ys.length-1)≤nat64 vs:=by
  rw [hvn];exact Nat.le_trans hlo (Nat.le_mul_of_pos_right _ hp)
 have l1:=hv.lenlo hvlo;have l2:=hv.lenhi (n:=ys.length) (by rw [hvn];exact hylt);refine ⟨by omega,hxl,by rw [hvn];exact hylt,?_,?_⟩
 · have hd:Dig (es++[0,0]++List.replicate c 0)∨True := .inr trivial;have t1:=zEh (es++[0,0]++List.replicate c 0) (xs.length-ys.length+1);rw [zIl,he] at t1;have hxlt:=zCL xs hx.1;by_cases hlen:xs.length-ys.length+1≤(es++[0,0]++List.replicate c 0).length
   · rw [Nat.min_eq_left hlen] at t1;have k1:nat64 xs<18446744073709551616^(xs.length-ys.length+1)*nat64 ys:=by
      have k2:=Nat.mul_le_mul_left (18446744073709551616^(xs.length-ys.length+1)) hlo;rw [← Nat.pow_add,show xs.length-ys.length+1+(ys.length-1)=xs.length from by omega] at k2;omega
     have k3:nat64 xs*2^s<18446744073709551616^(xs.length-ys.length+1)*nat64 vs:=by
      rw [hvn,← Nat.mul_assoc];exact Nat.mul_lt_mul_of_pos_right k1 hp
     have k4:18446744073709551616^(xs.length-ys.length+1)*nat64 ((es++[0,0]++List.replicate c 0).drop (xs.length-ys.length+1))<18446744073709551616^(xs.length-ys.length+1)*nat64 vs:=by omega
     exact Nat.lt_of_mul_lt_mul_left k4
   · rw [List.drop_eq_nil_of_le (by omega)];have:0<18446744073709551616^(ys.length-1):=Nat.pow_pos (by decide);show 0<_;omega
 · have:0<18446744073709551616^(ys.length-1):=Nat.pow_pos (by decide);omega
theorem zPR {x y:Value} (hxw:IsW w x a) (hyw:IsW w y b) (hfa:Fit a) (hfb:Fit b) (hb0:b≠0):Ret prog 191 #[x,y] w (fun v w'=>∃ q r,v = .tuple #[q,r]∧IsW w' q (a/b)∧IsW w' r (a%b)):=by
 have hxw0:=hxw;have hyw0:=hyw;obtain ⟨pa,xs,ca,rfl,hca,ha,hx,hxv⟩:=hxw0;obtain ⟨pb,ys,cb,rfl,hcb,hb,hy,hyv⟩:=hyw0;subst hxv hyv;have hlx:=hx.fit hfa;have hly:=hy.fit hfb;have E0:Ext w w:=Ext.refl w;refine J0 125 func191 rfl (rj fun K=>ag (ag (rm [0,1,4] K ?_)));refine rJ fun K=>K1 (zG zX rfl (ag (rm [0,1,4,6] K ?_)));refine zA (rJ fun K=>mv (K1 (j0 E0 hb174 (zPE (hxw.ext E0) (hyw.ext E0) hfa hfb) fun v2_2 w1 E0 hr => ?_)));obtain ⟨cm,rfl,hcm⟩:=hr;refine K8 rfl (rm [0,1,4,6,19] K ?_);refine K0 rfl ?_ ?_<;>intro hc
 · have hlt:nat64 xs<nat64 ys:=by have:=of_decide_eq_true hc;exact hcm.1.1 this
   clear hc;refine rJ fun K=>ag (ag (rm [4,5,6] K ?_));refine zB (zU (zQ ?_));exact ⟨rfl,_,zo rfl rfl rfl,E0,_,_,rfl,IsW.nil (Nat.div_eq_of_lt hlt),by rw [Nat.mod_eq_of_lt hlt];exact hxw.ext E0⟩
 · have hge:nat64 ys≤nat64 xs:=by
    rcases Nat.lt_or_ge (nat64 xs) (nat64 ys) with h | h
    · exact absurd (hcm.1.2 h) (of_decide_eq_false hc)
    · exact h
   clear hc;refine sk (zA (rJ fun K=>K8 rfl (rm [0,1,4,6,22] K ?_)));refine K0 rfl ?_ ?_<;>intro hc
   · have hl1:ys.length=1:=t_beq (b:=1) hc;clear hc;obtain ⟨y0,rfl⟩:∃ y0,ys=[y0]:=List.length_eq_one_iff.1 hl1;obtain ⟨b2,o2,cs2,hpb,hB2,hv2⟩:=(hb.ext E0) 0 (by simp);have hy0:0<y0:=by rw [zEM] at hb0;omega
     have hyl:y0<18446744073709551616:=hy.1 y0 (by simp);refine rJ fun K=>mv (K1 (zE (ix:=0) (b:=b2) (o:=o2) zX (congrArg (fun p=>Value.slice p 1 cb) hpb) rfl (by omega) (by decide) (K1 (zI zAR rfl hB2 (by simpa using hv2) (K1 (j0 E0 hb239 (zOo (hxw.ext E0) hfa hy0 hyl) fun v5_4 w2 E0 hr => ?_))))));obtain ⟨q1,rfl,hq1⟩:=hr;refine mv (xt rfl (xt rfl (ag (ag (rm [4,6,7,8] K ?_)))));refine rJ fun K=>mv (K1 (j1 E0 hq1.ext hb105 (zFC (Nat.lt_trans (Nat.mod_lt _ hy0) hyl)) fun v6_2 w3 E0 hq1 hr => ?_));refine ag (ag (rm [4,5,6] K ?_));refine zB (zU (zQ ?_));exact ⟨rfl,_,zo rfl rfl rfl,E0,_,_,rfl,by rw [zEM];exact hq1,by rw [zEM];exact hr⟩
   · have hl1:ys.length≠1:=f_beq (b:=1) hc;clear hc;have hn2:2≤ys.length:=by
      have:ys.length≠0:=fun e=>hb0 (by rw [List.eq_nil_of_length_eq_zero e];rfl);omega
     obtain ⟨b2,o2,cs2,hpb,hB2,hv2⟩:=(hb.ext E0) (ys.length-1) (by omega);have htop:ys.getD (ys.length-1) 0≠0:=fun e=>hy.2 (by
      have h0:ys.length-1<ys.length:=by omega
      rw [List.getD_eq_getElem?_getD,List.getElem?_eq_getElem h0] at e;rw [List.getLast?_eq_getElem?,List.getElem?_eq_getElem h0];exact congrArg some e)
     refine sk (rJ fun K=>mv (K1 (zAM (b:=1) (ys.length-1) rfl rfl (by omega) (by omega) (K1 (zE (ix:=((ys.length-1:Nat):Int)) (b:=b2) (o:=o2) zX (congrArg (fun p=>Value.slice p ys.length cb) hpb) rfl (by omega) (by omega) ?_)))));refine K1 (zI zAR rfl hB2 (by rw [show o2+((ys.length-1:Nat):Int).toNat*1=o2+(ys.length-1) from by omega];exact hv2) ?_);refine K1 (j0 E0 hb266 (LZ_ok htop (hy.1.getD _) _) fun v7_5 w2 E0 hr => ?_);obtain ⟨hw3,s,rfl,hs64,hs1,hs2⟩:=hr;refine ag (rm [0,1,4,6,9] K ?_)
     refine zA (zAY [([(1,none)],none),([(9,none)],none),([(40,some 1),(41,some 0)],none),([(0,none)],none),([(9,none)],none),([(43,some 1),(44,some 0)],none),([],none),([(45,some 1),(46,some 0)],none),([(0,none)],none),([(48,some 0)],none),([(49,some 0)],none),([(47,some 3),(50,some 0)],none),([(42,some 9)],none),([(51,some 1)],none)] mixed (by kernel_rfl) (by kernel_rfl) (by kernel_rfl) fun K hK=>dvp (fun σ wx hE hk=>zC ⟨Ext.refl _,hk.1⟩) (dvp (fun σ wx hE hk=>zC ⟨Ext.refl _,hk.1⟩) (dcp (UpR w.heap.size ys s) (fun _ _ _ _ hx h=>h.ext hx.toExt) (fun σ wx hE hk=>zH hb267 (CallK.eq2 hk.1 hk.2.1 (CallK.of_ret (up_ok ((hb.ext E0).ext hE) hy.1 (by omega) (by omega)) fun v w2 hX hr=>⟨hX,hr.sz (E0.trans hE).size⟩)) rfl) (dvp (fun σ wx hE hk=>zC ⟨Ext.refl _,hk.1⟩) (dvp (fun σ wx hE hk=>zC ⟨Ext.refl _,hk.1⟩) (dcp (UpR w.heap.size xs s) (fun _ _ _ _ hx h=>h.ext hx.toExt) (fun σ wx hE hk=>zH hb267 (CallK.eq2 hk.1 hk.2.1 (CallK.of_ret (up_ok ((ha.ext E0).ext hE) hx.1 (by omega) (by omega)) fun v w2 hX hr=>⟨hX,hr.sz (E0.trans hE).size⟩)) rfl) (dcp (TwoR) (fun _ _ _ _ hx h=>h.ext hx.toExt) (fun σ wx hE hk=>zc (cs:=dv [0,0]) zDf info164' (by decide) (by decide) (by kernel_rfl) (fun b w' hb hX hB hs=>⟨hX,b,rfl,hB⟩)) ?_)))))));refine dcp (AppR w.heap.size xs s 0) (fun _ _ _ _ hx h=>h.ext hx.toExt) (fun σ wx hE hk=>(by
      obtain ⟨ob,es,O,e1,h1,h2,h3,h4,h5,h6,h7⟩:=hk.1;obtain ⟨b2,e2,h8⟩:=hk.2.1;have h9:xs.length≤es.length:=by
       have t1:xs.length-1<es.length:=h3.lenlo (by rw [h4];exact Nat.le_trans (hx.lo (by rintro rfl;simp [nat64] at hge;omega)) (Nat.le_mul_of_pos_right _ (Nat.pow_pos (by decide))));omega
      have h10:=zAi (es.length+2) (xs.length+s/64+1);refine zAW zDf zDf zGI rfl (by decide) e1 e2 h2.cells (by rw [zAF];omega) (Cells.blk h8) rfl (by omega) (by omega) (fun w2 rest c hc hX hB hr hs=>⟨hX,_,es,c,by simp,by omega,hc,h3,h9,h4,(E0.trans hE).size,?_⟩);rw [zeroCells_one _ rfl,dv_rep] at hr;rw [hr] at hB;rw [zLT,zLT];exact hB)) ?_
     refine dvp (fun σ wx hE hk=>zC ⟨Ext.refl _,hk.1⟩) (dvp (fun σ wx hE hk=>zG zX hk.1 ⟨Ext.refl _,rfl⟩) (dvp (u := .int .i64 ((xs.length+1:Nat):Int)) (fun σ wx hE hk => ?_) ?_))
     · exact za (b:=1) (xs.length+1) hk.1 rfl rfl (by omega) ⟨Ext.refl _,rfl⟩
     refine dcp (AppR w.heap.size xs s (xs.length+1)) (fun _ _ _ _ hx h=>h.ext hx.toExt) (fun σ wx hE hk=>(by
      obtain ⟨ub,es,c,e1,h1,h2,h3,h4,h5,h6,h7⟩:=hk.1;exact zBq zX e1 hk.2.1 (by omega) (by omega) ⟨Ext.refl _,ub,es,c,by simp,h1,h2,h3,h4,h5,h6,h7⟩)) ?_
     refine dcp (UpR w.heap.size ys s) (fun _ _ _ _ hx h=>h.ext hx.toExt) (fun σ wx hE hk=>zZ ⟨Ext.refl _,hk.1⟩) (dcp (AppR w.heap.size xs s (xs.length+1)) (fun _ _ _ _ hx h=>h.ext hx.toExt) (fun σ wx hE hk=>zZ ⟨Ext.refl _,hk.1⟩) (zBW (hK _ fun wq hE => ?_)));rintro _ rfl _ rfl v42 N42 _ rfl _ rfl v45 N45 v46 N46 v47 N47 _ rfl _ rfl _ rfl v51 N51 v10 N10 v11 N11;refine zn ?_;replace E0:=E0.trans hE;clear hE;refine zN (K5 [0,4,6,9,10,11] ?_);refine zA ?_;obtain ⟨vb,vs,VO,rfl,hv1,hvr,hvd,hvv,hvb,hVB,hVO⟩:=N10;obtain ⟨ub,es,c,rfl,hc1,hc2,hed,hel,hev,hub,hUB⟩:=N11;clear N42 N45 N46 N47 N51;rw [if_neg (by omega),Nat.add_zero];obtain ⟨hvl,hnl,hvlt,htop0,hv0⟩:=div_init (c:=c-(es.length+2)) hx hy hn2 hge hs64 hs1 hvd hvv hev;have hvu:vb≠ub:=fun e=>by
      subst e;have e2:=(hVB.inj hUB).2;have e3:=congrArg List.length e2;rw [zAF,zAF,hVO] at e3;simp at e3;omega
     have hU0d:Dig (es++[0,0]++List.replicate (c-(es.length+2)) 0):=(hed.1.app (by intro d hd;simp at hd;omega)).app (zBr _);have hU0l:(es++[0,0]++List.replicate (c-(es.length+2)) 0).length=c:=by simp;omega
     have hU0v:nat64 (es++[0,0]++List.replicate (c-(es.length+2)) 0)=nat64 xs*2^s:=by rw [zIl,hev]
     generalize (es++[0,0]++List.replicate (c-(es.length+2)) 0)=U0 at *;clear hVB hVO VO hed hel hev es hc2;refine rI fun K=>K1 (zG zX rfl (mv (K1 (zAM (xs.length-ys.length) rfl rfl (by omega) (by omega) (K1 (za (b:=1) (xs.length-ys.length+1) rfl rfl rfl (by omega) ?_))))));refine K1 (zAJ zDf zGI rfl rfl rfl (by omega) (by omega) (by omega) fun qb w5 hb1 hE hB hs => ?_);have hqb:w.heap.size≤qb:=by rw [hb1];exact E0.size
     have hqu:ub≠qb:=by have:=hUB.lt;omega
     have hqv:vb≠qb:=by obtain ⟨a,ha1,ha2⟩:=hvr.lt (by omega);cases ha1;simp only at ha2;omega
     replace E0:=E0.trans hE;replace hvr:=hvr.ext hE;replace hUB:=hUB.ext hE;clear hE hs hb1;rw [show ((xs.length-ys.length+1:Nat):Int).toNat=xs.length-ys.length+1 from by omega,show (Value.int IntKind.u64 0).cells.toList=[Value.int IntKind.u64 0] from rfl,zAk] at hB;refine ag (rs [4,6,9,10,11] K ?_);refine zA (rJ fun K=>K1 (zG zX rfl (K1 (zF (v := .int .i64 (((xs.length-ys.length+1:Nat):Int)-1)) rfl rfl (congrArg (fun z=>some (Value.int .i64 z)) (zj (by omega) (by omega))) (ag (rm [4,6,9,10,11,12] K ?_))))));refine zD ?_
     refine ze (X:=Nat) (fun p ρ w'=>Keep ρ [(4,.slice (some ⟨qb,0,none⟩) (xs.length-ys.length+1) (xs.length-ys.length+1)),(6,.int .i64 (ys.length:Nat)),(9,.int .i64 (s:Nat)),(10,.slice (some ⟨vb,0,none⟩) vs.length (ys.length+s/64+1)),(11,.slice (some ⟨ub,0,none⟩) (xs.length+1) c),(12,.int .i64 (((p:Nat):Int)-1))]∧p≤xs.length-ys.length+1∧∃ U Q,Ext w w'∧Rd w' (some ⟨vb,0,none⟩) vs∧U.length=c∧Dig U∧Blk w' ub 164 (dv U)∧Q.length=xs.length-ys.length+1∧Dig Q∧Blk w' qb 164 (dv Q)∧(∀ t,t<p→U.getD t 0=U0.getD t 0)∧nat64 (Q.drop p)*nat64 vs+seg U p ys.length=nat64 (U0.drop p)∧seg U p ys.length<nat64 vs) (fun p=>p) (xs.length-ys.length+1) ⟨(kp rfl),Nat.le_refl _,U0,List.replicate (xs.length-ys.length+1) 0,E0,hvr,hU0l,hU0d,hUB,by simp,zBr _,hB,fun _ _=>rfl,by rw [List.drop_eq_nil_of_le (by simp),zOY (Nat.lt_trans htop0 hvlt)];simp [nat64],by rw [zOY (Nat.lt_trans htop0 hvlt)];exact htop0⟩ ?_;clear E0 hvr hUB hB;rintro k ρ1 w1 ⟨hk,hkl,U,Q,E0,hvr,hUl,hUd,hUB,hQl,hQd,hQB,hUe,hQV,hsV⟩;refine wpe_k _ hk ?_;clear hk ρ1;refine zA (zA ?_);rcases k with _ | j
     · skip
       refine rI fun K=>K8 rfl (rs [4,6,9,10,11,12,62] K ?_);refine wcf (congrArg Value.bool (decide_eq_false (by omega))) (zV (zv (zi (zL (zN (zA ?_))))));rw [List.drop_zero,List.drop_zero,hU0v,zKB,hvv] at hQV;rw [zKB,hvv] at hsV;obtain ⟨hdq,hdr⟩:=div_end hQV hsV (by omega);have hfR:(nat64 (U.take ys.length)).log2<17592186044416:=log2_dig (N:=137438953473) (hUd.take _) (by simp;omega) (by decide);refine zAY [([(4,none)],none),([(117,some 0)],none),([(11,none)],none),([(6,none)],none),([(119,some 1),(120,some 0)],none),([(121,some 0)],none),([(9,none)],none),([(122,some 1),(123,some 0)],none),([(118,some 6)],none),([(124,some 1)],none)] mixed (by kernel_rfl) (by kernel_rfl) (by kernel_rfl) fun K hK=>dvp (fun σ wx hE hk=>zC ⟨Ext.refl _,hk.1⟩) (dcp (fun v w'=>IsW w' v (nat64 Q)) (fun _ _ _ _ hx h=>h.ext hx.toExt) (fun σ wx hE hk=>zH hb194 (CallK.eq1 hk.1 (CallK.of_ret (zEl hQl (Nat.le_refl _) (Rd.of_blk (hQB.ext hE)) hQd (by omega)) fun v w2 hX hr=>⟨hX,hr⟩)) rfl) (dvp (fun σ wx hE hk=>zC ⟨Ext.refl _,hk.1⟩) (dvp (fun σ wx hE hk=>zC ⟨Ext.refl _,hk.1⟩) (dvp (u := .slice (some ⟨ub,0,none⟩) ys.length c) (fun σ wx hE hk => ?_) ?_))))
       · exact zBq zX hk.1 hk.2.1 (by omega) (by omega) ⟨Ext.refl _,rfl⟩
       refine dcp (fun v w'=>IsW w' v (nat64 (U.take ys.length))) (fun _ _ _ _ hx h=>h.ext hx.toExt) (fun σ wx hE hk=>zH hb194 (CallK.eq1 hk.1 (CallK.of_ret (zEl (by simp;omega) (by omega) ((Rd.of_blk (hUB.ext hE)).take ys.length) (hUd.take _) (by omega)) fun v w2 hX hr=>⟨hX,hr⟩)) rfl) ?_;refine dvp (fun σ wx hE hk=>zC ⟨Ext.refl _,hk.1⟩) (dcp (fun v w'=>IsW w' v (nat64 (U.take ys.length)/2^s)) (fun _ _ _ _ hx h=>h.ext hx.toExt) (fun σ wx hE hk=>zH hb271 (CallK.eq2 rfl hk.2.1 (CallK.of_ret (down_ok hk.1 hfR (by omega)) fun v w2 hX hr=>⟨hX,hr⟩)) rfl) (dcp (fun v w'=>IsW w' v (nat64 Q)) (fun _ _ _ _ hx h=>h.ext hx.toExt) (fun σ wx hE hk=>zZ ⟨Ext.refl _,hk.1⟩) (dcp (fun v w'=>IsW w' v (nat64 (U.take ys.length)/2^s)) (fun _ _ _ _ hx h=>h.ext hx.toExt) (fun σ wx hE hk=>zZ ⟨Ext.refl _,hk.1⟩) (zBW (hK _ fun wq hE => ?_)))));rintro _ rfl v118 N118 _ rfl _ rfl _ rfl v122 N122 _ rfl v124 N124 v4 N4 v5 N5;refine zn ?_;replace E0:=E0.trans hE;replace hUB:=hUB.ext hE;replace hQB:=hQB.ext hE;replace hvr:=hvr.ext hE;clear hE;refine zN (K5 [4,5,6,9,10,11,12] ?_);refine zB (zQ ?_);exact ⟨rfl,_,zo rfl rfl rfl,E0,_,_,rfl,by rw [← hdq];exact N4,by rw [← hdr];exact N5⟩
     · have hw1:((j+1:Nat):Int)-1=(j:Int):=by omega
       have hw2:IntKind.i64.wrap ((j:Nat)-1)=(j:Int)-1:=zj (by omega) (by omega);rw [hw1];have hjn:j+ys.length<c:=by omega
       have hix1:(0:Nat)+((j+ys.length:Nat):Int).toNat*1=j+ys.length:=by omega
       have hix2:(0:Nat)+((j+ys.length-1:Nat):Int).toNat*1=j+ys.length-1:=by omega
       have hixq:(0:Nat)+((j:Nat):Int).toNat*1=j:=by omega
       have hixv:((ys.length-1:Nat):Int).toNat*1=ys.length-1:=by omega
       obtain ⟨vb',vo,vcs,hpv,hVB,hVv⟩:=hvr (ys.length-1) (by omega);cases hpv;have hXV:seg U j (ys.length+1)<(18446744073709551615+1)*nat64 vs:=by
        have k1:seg U (j+1) ys.length+1≤nat64 vs:=hsV;have k2:=Nat.mul_le_mul_left 18446744073709551616 k1;have k3:=hUd.getD j;rw [zHr];omega
       have hUlo:=zJl hUd j (ys.length-1);have hvt:vs.getD (ys.length-1) 0*18446744073709551616^(ys.length-1)≤nat64 vs:=by
        have k1:=nat64_take_succ' vs (ys.length-1);rw [List.take_of_length_le (by omega)] at k1;rw [k1,Nat.mul_comm];omega
       refine rI fun K=>K8 rfl (rs [4,6,9,10,11,12,62] K ?_);refine wct (congrArg Value.bool (decide_eq_true (by omega))) (sk (zA (zD (rj fun K=>ag (rm [4,6,9,10,11,12,13] K ?_)))));refine zBO (fun ρ w'=>∃ g:Nat,Keep ρ [(4,.slice (some ⟨qb,0,none⟩) (xs.length-ys.length+1) (xs.length-ys.length+1)),(6,.int .i64 (ys.length:Nat)),(9,.int .i64 (s:Nat)),(10,.slice (some ⟨vb,0,none⟩) vs.length (ys.length+s/64+1)),(11,.slice (some ⟨ub,0,none⟩) (xs.length+1) c),(12,.int .i64 (j:Nat)),(13,.int .u64 (g:Nat))]∧g<18446744073709551616∧seg U j (ys.length+1)<(g+1)*nat64 vs∧∃ U',Ext w w'∧Rd w' (some ⟨vb,0,none⟩) vs∧U'.length=c∧Dig U'∧Blk w' ub 164 (dv U')∧Q.length=xs.length-ys.length+1∧Dig Q∧Blk w' qb 164 (dv Q)∧(∀ t,t<j→U'.getD t 0=U.getD t 0)∧seg U' j (ys.length+1)=seg U j (ys.length+1)) ?_ ?_
       · refine zA (zCH mixed rfl rfl fun K hK=>qr rfl (fun wx hE=>zC ⟨rfl,Ext.refl _⟩) (qr rfl (fun wx hE=>zC ⟨rfl,Ext.refl _⟩) (qr rfl (fun wx hE=>zC ⟨rfl,Ext.refl _⟩) (qr rfl (fun wx hE=>za (j+ys.length) rfl rfl rfl (by omega) ⟨rfl,Ext.refl _⟩) (qr rfl (fun wx hE=>zE (b:=ub) (o:=0) (ix:=((j+ys.length:Nat):Int)) zX rfl rfl (by omega) (by omega) ⟨rfl,Ext.refl _⟩) ?_)))));refine qr rfl (fun wx hE=>zI zAR rfl (hUB.ext hE) (by rw [hix1];exact zCW U (j+ys.length) (by omega)) ⟨rfl,Ext.refl _⟩) ?_;refine qr rfl (fun wx hE=>zC ⟨rfl,Ext.refl _⟩) (qr rfl (fun wx hE=>zC ⟨rfl,Ext.refl _⟩) (qr rfl (fun wx hE=>zAM (b:=1) (ys.length-1) rfl rfl (by omega) (by omega) ⟨rfl,Ext.refl _⟩) (qr rfl (fun wx hE=>zE (b:=vb) (o:=0) (ix:=((ys.length-1:Nat):Int)) zX rfl rfl (by omega) (by omega) ⟨rfl,Ext.refl _⟩) ?_)));refine qr rfl (fun wx hE=>zI zAR rfl (hVB.ext hE) (by rw [hixv];exact hVv) ⟨rfl,Ext.refl _⟩) ?_;refine qr rfl (fun wx hE=>zF rfl rfl rfl ⟨rfl,Ext.refl _⟩) (hK _ fun wq hE => ?_);replace E0:=E0.trans hE;replace hUB:=hUB.ext hE;replace hQB:=hQB.ext hE;replace hvr:=hvr.ext hE;replace hVB:=hVB.ext hE;clear hE;refine zN (K5 [4,6,9,10,11,12,13,76] ?_);refine K0 rfl ?_ ?_<;>intro hc
         · have hcase:U.getD (j+ys.length) 0<vs.getD (ys.length-1) 0:=t_lt hc;clear hc;refine zAY [([(11,none)],none),([(12,none)],none),([(6,none)],none),([(79,some 1),(80,some 0)],none),([(78,some 3),(81,some 0)],none),([(82,some 0)],none),([(11,none)],none),([(12,none)],none),([(6,none)],none),([(85,some 1),(86,some 0)],none),([(87,some 0)],none),([(84,some 4),(88,some 0)],none),([(89,some 0)],none),([(10,none)],none),([(6,none)],none),([(92,some 0)],none),([(91,some 2),(93,some 0)],none),([(94,some 0)],none),([(83,some 12),(90,some 5),(95,some 0)],none),([(96,some 0)],none),([(77,some 0)],none),([(77,some 1)],none),([(97,some 1)],none)] mixed (by kernel_rfl) (by kernel_rfl) (by kernel_rfl) fun K hK=>dvp (fun σ wx hE hk=>zC ⟨Ext.refl _,hk.1⟩) (dvp (fun σ wx hE hk=>zC ⟨Ext.refl _,hk.1⟩) (dvp (fun σ wx hE hk=>zC ⟨Ext.refl _,hk.1⟩) (dvp (u := .int .i64 ((j+ys.length:Nat):Int)) (fun σ wx hE hk => ?_) ?_)))
           · exact za (j+ys.length) hk.1 hk.2.1 rfl (by omega) ⟨Ext.refl _,rfl⟩
           refine dvp (u := .pointer (some ⟨ub,j+ys.length,none⟩)) (fun σ wx hE hk => ?_) ?_
           · exact zE zX hk.1 hk.2.1 (by omega) (by omega) ⟨Ext.refl _,by rw [hix1]⟩
           refine dvp (u := .int .u64 (U.getD (j+ys.length) 0:Nat)) (fun σ wx hE hk => ?_) ?_
           · exact zI zAR hk.1 (hUB.ext hE) (zCW U (j+ys.length) (by omega)) ⟨Ext.refl _,rfl⟩
           refine dvp (fun σ wx hE hk=>zC ⟨Ext.refl _,hk.1⟩) (dvp (fun σ wx hE hk=>zC ⟨Ext.refl _,hk.1⟩) (dvp (fun σ wx hE hk=>zC ⟨Ext.refl _,hk.1⟩) (dvp (u := .int .i64 ((j+ys.length:Nat):Int)) (fun σ wx hE hk => ?_) ?_)))
           · exact za (j+ys.length) hk.1 hk.2.1 rfl (by omega) ⟨Ext.refl _,rfl⟩
           refine dvp (u := .int .i64 ((j+ys.length-1:Nat):Int)) (fun σ wx hE hk => ?_) ?_
           · exact zAM (b:=1) (j+ys.length-1) hk.1 rfl (by omega) (by omega) ⟨Ext.refl _,rfl⟩
           refine dvp (u := .pointer (some ⟨ub,j+ys.length-1,none⟩)) (fun σ wx hE hk => ?_) ?_
           · exact zE zX hk.1 hk.2.1 (by omega) (by omega) ⟨Ext.refl _,by rw [hix2]⟩
           refine dvp (u := .int .u64 (U.getD (j+ys.length-1) 0:Nat)) (fun σ wx hE hk => ?_) ?_
           · exact zI zAR hk.1 (hUB.ext hE) (zCW U (j+ys.length-1) (by omega)) ⟨Ext.refl _,rfl⟩
           refine dvp (fun σ wx hE hk=>zC ⟨Ext.refl _,hk.1⟩) (dvp (fun σ wx hE hk=>zC ⟨Ext.refl _,hk.1⟩) (dvp (u := .int .i64 ((ys.length-1:Nat):Int)) (fun σ wx hE hk => ?_) ?_))
           · exact zAM (b:=1) (ys.length-1) hk.1 rfl (by omega) (by omega) ⟨Ext.refl _,rfl⟩
           refine dvp (u := .pointer (some ⟨vb,ys.length-1,none⟩)) (fun σ wx hE hk => ?_) ?_
           · exact zE zX hk.1 hk.2.1 (by omega) (by omega) ⟨Ext.refl _,by rw [hixv,Nat.zero_add]⟩
           refine dvp (u := .int .u64 (vs.getD (ys.length-1) 0:Nat)) (fun σ wx hE hk => ?_) ?_
           · exact zI zAR hk.1 (hVB.ext hE) (by simpa using hVv) ⟨Ext.refl _,rfl⟩
           refine dcp (fun v _=>GuR (U.getD (j+ys.length) 0) (U.getD (j+ys.length-1) 0) (vs.getD (ys.length-1) 0) v) (fun _ _ _ _ _ h=>h) (fun σ wx hE hk=>zH hb268 (CallK.eq3 hk.1 hk.2.1 hk.2.2.1 (CallK.of_ret (zNv hcase (hUd.getD _) (hvd.1.getD _) _) fun v w2 hX hr=>⟨hX,hr⟩)) rfl) (dcp (fun v _=>GuR (U.getD (j+ys.length) 0) (U.getD (j+ys.length-1) 0) (vs.getD (ys.length-1) 0) v) (fun _ _ _ _ _ h=>h) (fun σ wx hE hk=>zC ⟨Ext.refl _,hk.1⟩) ?_);refine dcp (fun v _=>GuQ (U.getD (j+ys.length) 0) (U.getD (j+ys.length-1) 0) (vs.getD (ys.length-1) 0) v) (fun _ _ _ _ _ h=>h) (fun σ wx hE hk=>(by obtain ⟨a,b,e,hq⟩:=GuR.q hk.1;exact zDo e rfl ⟨Ext.refl _,hq⟩)) ?_;refine dcp (fun _ _=>True) (fun _ _ _ _ _ h=>h) (fun σ wx hE hk=>(by obtain ⟨a,b,e,hq⟩:=GuR.q hk.1;exact zDo e rfl ⟨Ext.refl _,trivial⟩)) ?_;refine dcp (fun v _=>GuQ (U.getD (j+ys.length) 0) (U.getD (j+ys.length-1) 0) (vs.getD (ys.length-1) 0) v) (fun _ _ _ _ _ h=>h) (fun σ wx hE hk=>zZ ⟨Ext.refl _,hk.1⟩) (zBW (hK _ fun wq hE => ?_));rintro _ rfl _ rfl _ rfl _ rfl _ rfl _ rfl _ rfl _ rfl _ rfl _ rfl _ rfl _ rfl _ rfl _ rfl _ rfl _ rfl _ rfl _ rfl v96 N96 v77 N77 v97 N97 v98 N98 v13 N13;refine zn ?_;replace E0:=E0.trans hE;replace hUB:=hUB.ext hE;replace hQB:=hQB.ext hE;replace hvr:=hvr.ext hE;replace hVB:=hVB.ext hE;clear hE;refine zP ?_
           obtain ⟨g,rfl,hg1,hg2⟩:=N13;exact ⟨rfl,g,(kp rfl),hg2,guess_le (guess_top (by omega)) hUlo hvt hg1,U,E0,hvr,hUl,hUd,hUB,hQl,hQd,hQB,fun _ _=>rfl,rfl⟩
         · clear hc;exact zm (zP ⟨rfl,18446744073709551615,(kp rfl),by decide,hXV,U,E0,hvr,hUl,hUd,hUB,hQl,hQd,hQB,fun _ _=>rfl,rfl⟩)
       · clear E0 hvr hUB hQB hVB hVv;rintro ρ2 w2 ⟨g0,hk,hgl0,hXg0,U0',hall0⟩;refine wpe_k _ hk ?_;clear hk ρ2;refine zA (zD (ze (X:=Nat) (fun g ρ w'=>Keep ρ [(4,.slice (some ⟨qb,0,none⟩) (xs.length-ys.length+1) (xs.length-ys.length+1)),(6,.int .i64 (ys.length:Nat)),(9,.int .i64 (s:Nat)),(10,.slice (some ⟨vb,0,none⟩) vs.length (ys.length+s/64+1)),(11,.slice (some ⟨ub,0,none⟩) (xs.length+1) c),(12,.int .i64 (j:Nat)),(13,.int .u64 (g:Nat))]∧g<18446744073709551616∧seg U j (ys.length+1)<(g+1)*nat64 vs∧∃ U',Ext w w'∧Rd w' (some ⟨vb,0,none⟩) vs∧U'.length=c∧Dig U'∧Blk w' ub 164 (dv U')∧Q.length=xs.length-ys.length+1∧Dig Q∧Blk w' qb 164 (dv Q)∧(∀ t,t<j→U'.getD t 0=U.getD t 0)∧seg U' j (ys.length+1)=seg U j (ys.length+1)) (fun g=>g) g0 ⟨(kp rfl),hgl0,hXg0,U0',hall0⟩ ?_));clear hgl0 hXg0 hall0 U0' g0;rintro g ρ3 w3 ⟨hk,hgl,hXg,U1,E0,hvr,hU1l,hU1d,hU1B,_,_,hQB,hU1t,hU1s⟩;refine wpe_k _ hk ?_;clear hk ρ3;refine zA (rJ fun K=>mv (K1 (zDt zX rfl rfl (by omega) (by omega) ?_)));rw [show ((j:Nat):Int).toNat=j from by omega,if_neg (by omega),show Option.map (fun a=>Addr.add a (j*1)) (some (⟨ub,0,none⟩:Addr))=some ⟨ub,j,none⟩ from by simp [zAu]];refine mv (mv ?_)
         refine K1 (zH hb269 ((take_ok hU1B hU1d hvr hvd.1 (fun a ha _=>by cases ha;exact hvu) hgl (by omega) (by omega) (by omega)).mono fun v2 w4 hr => ?_) rfl);obtain ⟨U2,cc,rfl,hcc,hW,hU2B,hU2l,hU2d,hU2t,hU2s⟩:=hr;replace E0:=E0.upd hW hub;replace hvr:=hvr.upd' hW (fun a ha _=>by cases ha;exact hvu);replace hQB:=hQB.upd hW (Ne.symm hqu);clear hW;rw [hvl] at hU2t hU2s;rw [hU1l] at hU2l;rw [hU1s] at hU2s;obtain ⟨htk0,htk1⟩:=take_res hU2s hcc (zJl hUd j (ys.length+1)) (zJl hU2d j (ys.length+1)) hXg (Nat.le_trans (Nat.le_of_lt hvlt) (Nat.pow_le_pow_right (by decide) (by omega)));refine rm [4,6,9,10,11,12,13,104] K ?_;refine K0 rfl ?_ ?_<;>intro hc
         · obtain rfl:cc=1:=by have:=bne_iff_ne.1 hc;omega
           clear hc;obtain ⟨hXg',hg1⟩:=htk1 rfl;refine sk (zD (rJ fun K=>mv (K1 (zDt zX rfl rfl (by omega) (by omega) ?_))));rw [show ((j:Nat):Int).toNat=j from by omega,if_neg (by omega),show Option.map (fun a=>Addr.add a (j*1)) (some (⟨ub,0,none⟩:Addr))=some ⟨ub,j,none⟩ from by simp [zAu]];refine mv (mv ?_);refine K1 (zH hb270 ((give_ok hU2B hU2d hvr hvd.1 (fun a ha _=>by cases ha;exact hvu) hgl (by omega) (by omega) (by omega)).mono fun v3 w5 hr => ?_) rfl);obtain ⟨U3,c3,hc3,hW,hU3B,hU3l,hU3d,hU3t,hU3s⟩:=hr;replace E0:=E0.upd hW hub;replace hvr:=hvr.upd' hW (fun a ha _=>by cases ha;exact hvu);replace hQB:=hQB.upd hW (Ne.symm hqu);clear hW;rw [hvl] at hU3t hU3s;have hS3:=give_res hU2s hU3s hc3 (zJl hUd j (ys.length+1)) (zJl hU3d j (ys.length+1));refine rm [4,6,9,10,11,12,13] K ?_;refine rI fun K=>K1 (zDA (b:=1) (g-1) rfl rfl (by omega) (by omega) (ag (rl K (zS (zP ?_)))));exact ⟨rfl,g-1,⟨(kp rfl),by omega,by rw [show g-1+1=g from by omega];exact hXg',U3,E0,hvr,hU3l.trans hU2l,hU3d,hU3B,hQl,hQd,hQB,fun t ht=>(hU3t t (Or.inl ht)).trans ((hU2t t (Or.inl ht)).trans (hU1t t ht)),hS3⟩,by omega⟩
         · obtain rfl:cc=0:=by have:=bne_eq_false_iff_eq.1 hc;omega
           clear hc;obtain ⟨hS,hfin⟩:=htk0 rfl;refine zV (zv (zi (zL (zN (rI fun K=>mv (mv ?_))))));have hUl':=hU2l;have hUd':=hU2d;have hUt:∀ t,t<j→U2.getD t 0=U.getD t 0:=fun t ht=>(hU2t t (Or.inl ht)).trans (hU1t t ht);generalize U2=U' at *;have hUB':=hU2B;refine K1 (zE (b:=qb) (o:=0) (ix:=((j:Nat):Int)) zX rfl rfl (by omega) (by omega) ?_);refine K1 (zt zCc rfl hQB rfl (by rw [hixq,zAF];omega) (by decide) rfl fun w6 hW hN => ?_);replace E0:=E0.upd hW hqb;replace hvr:=hvr.upd' hW (fun a ha _=>by cases ha;exact hqv);replace hUB':=hUB'.upd hW hqu;clear hW;refine rl K (zS (zN (K5 [4,6,9,10,11,12,13] ?_)));refine rI fun K=>K1 (zF (v := .int .i64 ((j:Nat)-1)) rfl rfl (congrArg (fun z=>some (Value.int .i64 z)) hw2) (ag (rl K (zP (⟨rfl,j,⟨(kp rfl),by omega,U',Q.set j g,E0,hvr,hUl',hUd',hUB',by simp [hQl],hQd.set _ hgl,zAj hN hixq,fun t ht=>(hUt t ht).trans (hUe t (by omega)),?_,?_⟩,by omega⟩)))))
           · rw [(zPJ hUd' hfin (Nat.le_of_lt hvlt)).2];exact div_step (X:=seg U j (ys.length+1)) (zFN (by omega)) hQV (by rw [zHr,hUe j (by omega)]) hS (by rw [zIU (by omega)])
           · rw [(zPJ hUd' hfin (Nat.le_of_lt hvlt)).2];exact hfin
variable {m:Nat}
theorem zER (h:m≤n):m.log2≤n.log2:=by
 by_cases h0:m=0
 · subst h0;exact Nat.zero_le _
 · have h1:=Nat.log2_self_le h0;rcases Nat.lt_or_ge n.log2 m.log2 with h2 | h2
   · have h3:=(Nat.log2_lt (by omega:n≠0)).1 h2;omega
   · exact h2
theorem Fit.le (h:Fit n) (hm:m≤n):Fit m:=Nat.lt_of_le_of_lt (zER hm) h
theorem zHo (a b:Nat):Nat.gcd b (a%b)=Nat.gcd a b:=by
 rw [Nat.gcd_comm a b,Nat.gcd_rec b a,Nat.gcd_comm]
theorem zEG {x y:Value} (hx:IsW w x a) (hy:IsW w y b) (hfa:Fit a) (hfb:Fit b):Ret prog 155 #[x,y] w (fun v w'=>IsW w' v (Nat.gcd a b)):=by
 have E0:Ext w w:=Ext.refl w;refine J0 44 func155 rfl (rj fun K=>ag (rm [0,1] K ?_));refine zA (zD (ze (X:=Nat×Nat) (fun p ρ w'=>∃ vx vy,Keep ρ [(0,vx),(1,vy)]∧Ext w w'∧IsW w' vx p.1∧IsW w' vy p.2∧Fit p.1∧Fit p.2∧Nat.gcd p.1 p.2=Nat.gcd a b) (fun p=>p.2) (a,b) ⟨x,y,(kp rfl),E0,hx.ext E0,hy.ext E0,hfa,hfb,rfl⟩ ?_));clear E0 hx hy;rintro ⟨A,B⟩ ρ1 w1 ⟨vx,vy,hk,E0,hx,hy,hA,hB,hg⟩;simp only at hx hy hA hB hg;have hy0:=hy;obtain ⟨pb,ys,cb,rfl,hcb,hb,hyn,hyv⟩:=hy0;have hyl:=hyn.fit (hyv ▸ hB);refine wpe_k _ hk ?_;clear hk ρ1;refine zA (rJ fun K=>K1 (zG zX rfl (K8 rfl (rm [0,1,12] K ?_))));refine K0 rfl ?_ ?_<;>intro hc
 · have hl1:1<ys.length:=by have:=of_decide_eq_true hc;omega
   clear hc;have hb0:B≠0:=fun e=>by rw [e] at hyv;have:=hyn.zero.1 hyv;subst this;simp at hl1
   refine sk (zD (rJ fun K=>mv (K1 (j2 E0 hx.ext hy.ext hb191 (zPR hx hy hA hB hb0) fun v2_2 w1 E0 hx hy hr => ?_))));obtain ⟨q1,r1,rfl,hr1,hr2⟩:=hr;refine mv (xt rfl (xt rfl (ag (ag (rm [1,6] K ?_)))));exact rI fun K=>mv (ag (ag (rl K (zS (zP (⟨rfl,(B,A%B),⟨_,_,(kp rfl),E0,hy,hr2,hB,hB.le (Nat.le_of_lt (Nat.mod_lt _ (Nat.pos_of_ne_zero hb0))),(zHo A B).trans hg⟩,Nat.mod_lt _ (Nat.pos_of_ne_zero hb0)⟩))))))
 · have hl1:ys.length≤1:=by have:=of_decide_eq_false hc;omega
   clear hc;refine zV (zv (zi (zL (zN (zA (rJ fun K=>K1 (zG zX rfl (K8 rfl (rm [0,1,23] K ?_)))))))));refine K0 rfl ?_ ?_<;>intro hc
   · have hl0:ys.length=0:=by have:=eq_of_beq hc;omega
     clear hc;obtain rfl:=List.eq_nil_of_length_eq_zero hl0;obtain rfl:B=0:=by rw [← hyv];rfl
     rw [Nat.gcd_zero_right] at hg;refine rJ fun K=>ag (rm [1,4] K ?_);exact zB (zU (en rfl E0 (hg ▸ hx)))
   · have hl0:ys.length≠0:=fun e=>by rw [e] at hc;cases hc
     clear hc;obtain ⟨y0,rfl⟩:∃ y0,ys=[y0]:=List.length_eq_one_iff.1 (by omega);obtain ⟨b2,o2,cs2,hpb,hB2,hv2⟩:=hb 0 (by simp);rw [zEM] at hyv;subst hyv;have hy1:y0<18446744073709551616:=hyn.1 y0 (by simp);have hy2:0<y0:=by
      rcases Nat.eq_zero_or_pos y0 with e | e
      · subst e;exact absurd rfl hyn.2
      · exact e
     refine sk (rJ fun K=>mv (K1 (zE (ix:=0) (b:=b2) (o:=o2) zX (congrArg (fun p=>Value.slice p 1 cb) hpb) rfl (by omega) (by decide) (K1 (zI zAR rfl hB2 (by simpa using hv2) (K1 (j3 E0 hx.ext hy.ext hB2.ext hb239 (zOo hx hA hy2 hy1) fun v6_4 w1 E0 hx hy hB2 hr => ?_)))))));obtain ⟨q1,rfl,hq1⟩:=hr;refine mv (xt rfl (xt rfl (ag (ag (rm [1,8] K ?_)))));refine zA ?_;clear hx hy hq1;refine rI fun K=>K1 (zE (ix:=0) (b:=b2) (o:=o2) zX (congrArg (fun p=>Value.slice p 1 cb) hpb) rfl (by omega) (by decide) (K1 (zI zAR rfl hB2 (by simpa using hv2) (ag (rs [1,8,9] K ?_)))));refine zA (zD (ze (X:=Nat×Nat) (fun p ρ w'=>Keep ρ [(8,.int .u64 (p.1:Nat)),(9,.int .u64 (p.2:Nat))]∧Ext w w'∧p.1<18446744073709551616∧p.2<18446744073709551616∧Nat.gcd p.2 p.1=Nat.gcd a b) (fun p=>p.1) (A%y0,y0) ⟨(kp rfl),E0,Nat.lt_trans (Nat.mod_lt _ hy2) hy1,hy1,(zHo A y0).trans hg⟩ ?_));clear E0 hB2 hb hg hy1 hy2;rintro ⟨u,v⟩ ρ2 w2 ⟨hk,E0,hu,hv,hg⟩;simp only at hu hv hg;refine wpe_k _ hk ?_;clear hk ρ2;refine zA (rJ fun K=>K8 rfl (rm [8,9,37] K ?_));refine K0 rfl ?_ ?_<;>intro hc
     · have hu0:u≠0:=t_bne (b:=0) hc;clear hc;exact sk (zD (rI fun K=>mv (K1 (zLw (v%u) rfl rfl hu0 rfl (mv (ag (ag (rl K (zS (zP (⟨rfl,(v%u,u),⟨(kp rfl),E0,Nat.lt_trans (Nat.mod_lt _ (by omega)) hu,hu,(zHo v u).trans hg⟩,Nat.mod_lt _ (by omega)⟩)))))))))))
     · obtain rfl:u=0:=f_bne (b:=0) hc;clear hc;rw [Nat.gcd_zero_right] at hg;refine zV (zv (zi (zL (zN (rJ fun K=>K1 (j0 E0 hb105 (zFC hv) fun v10_1 w2 E0 hr => ?_))))));refine ag (rm [4,8,9] K ?_);exact zB (en rfl E0 (hg ▸ hr))
end Go.Proofs.YtjiendlfobjanaaGreatDoor
namespace Go.Proofs.YtjiendlfobjanaaGreatDoor
open Go Go.RowKit Go.Proofs Tryz
variable {P:Program} {T t' ty:TypeId} {a b i n:Nat} {af:Array Edge} {cs:List Value} {g:Option (Nat×Bool)} {pos:String} {r:Option Nat} {u v:Value} {w w' w0:World} {α:Type} {σ:Operand→Value}
theorem IsW.of_eq (h:v=u) (hx:IsW w u n):IsW w v n:=h ▸ hx
theorem IsNum.of_eq {q:Rat} (h:v=u) (hx:IsNum w u q):IsNum w v q:=h ▸ hx
theorem nin1 (h:a≠b):a ∉ [b]:=by simp [h]
theorem noW1 (hB:Blk w b T cs) (hT:T≠164):NoW [b] w:=fun c hc=>by
 rw [List.mem_singleton.1 hc];exact ⟨T,cs,hB,hT⟩
theorem all1 {p:α→Prop} {a:α} (h:p a):∀ s∈[a],p s:=fun s hs=>by rw [List.mem_singleton.1 hs];exact h
def Cell3 (b:Nat) (w:World):Prop:=∃ cs,Blk w b 37 cs∧cs.length=3
def NumAt (b:Nat) (q:Rat) (w:World):Prop:=∃ cs,Blk w b 37 cs∧cs.length=3∧IsNum w (.agg cs.toArray) q
theorem Cell3.of (hB:Blk w b 37 cs) (hl:cs.length=3):Cell3 b w:=⟨cs,hB,hl⟩
theorem NumAt.ext {q:Rat} (h:NumAt b q w) (hx:Ext w w'):NumAt b q w':=by
 obtain ⟨cs,h1,h2,h3⟩:=h;exact ⟨cs,h1.ext hx,h2,h3.ext hx⟩
theorem zGF {q:Rat} (hB:Blk w0 b 37 cs) (hl:cs.length=3) :
 (⟨i,b,Cell3 b,NumAt b q⟩:StoreSpec).blk<w0.heap.size∧(⟨i,b,Cell3 b,NumAt b q⟩:StoreSpec).pre w0∧∀ w w',ExtS [b] w0 w→ExtS [b] w w'→w'.heap[(⟨i,b,Cell3 b,NumAt b q⟩:StoreSpec).blk]? = w.heap[(⟨i,b,Cell3 b,NumAt b q⟩:StoreSpec).blk]? →
  ((⟨i,b,Cell3 b,NumAt b q⟩:StoreSpec).pre w→(⟨i,b,Cell3 b,NumAt b q⟩:StoreSpec).pre w')∧((⟨i,b,Cell3 b,NumAt b q⟩:StoreSpec).post w→(⟨i,b,Cell3 b,NumAt b q⟩:StoreSpec).post w'):=by
 refine ⟨hB.lt,⟨cs,hB,hl⟩,fun w w' _ hx he=>⟨?_,?_⟩⟩
 · rintro ⟨cs',h1,h2⟩;exact ⟨cs',by show w'.heap[b]? = _;rw [he];exact h1,h2⟩
 · rintro ⟨cs',h1,h2,h3⟩;exact ⟨cs',by show w'.heap[b]? = _;rw [he];exact h1,h2,h3.extS hx (noW1 h1 (by decide))⟩
theorem zAy {d:Option Tmp} {x y:Operand} {q:Rat} (hx:σ x = .pointer (some ⟨b,0,none⟩)) (hy:IsNum w (σ y) q) (hc:Cell3 b w) :
 Runs prog r ⟨d,.store 37 x y,ty,pos,af,g⟩ σ w (fun _ w'=>Upd b w w'∧NumAt b q w'):=by
 obtain ⟨cs,hB,hl⟩:=hc;have hy0:=hy;obtain ⟨n,dd,he,hn,hd⟩:=hy;obtain ⟨p1,ds1,c1,rfl,-⟩:=hn;obtain ⟨p2,ds2,c2,rfl,-⟩:=hd;refine zt zHb hx hB (by rw [he];rfl) (by omega) (by decide) (by rw [he];rfl) fun w' hU hN=>⟨hU,?_⟩;rw [he] at hN hy0
 match cs,hl with
 | [a,b',c],_=>exact ⟨_,hN,rfl,hy0.upd hU hB (by decide)⟩
theorem zK {K:Value→World→Prop} {d:Option Tmp} {x y:Operand} {q:Rat} (hx:σ x = .pointer (some ⟨b,0,none⟩)) (hy:IsNum w (σ y) q) (hc:Cell3 b w)
 (hk:∀ v w',Upd b w w'→NumAt b q w'→K v w'):Runs prog r ⟨d,.store 37 x y,ty,pos,af,g⟩ σ w K :=
 (zAy hx hy hc).mono fun v w' h=>hk v w' h.1 h.2
theorem run_equalIn_bool {t:TypeId} (hT:P.underlying t=some .bool) (d:Nat) (a b:Bool) (w:World):(Op.equalIn (d+1) t (.bool a) (.bool b)).run P w = .ok (a==b) w:=by
 unfold Op.equalIn;simp [run_underlying hT]
theorem zFt {t:TypeId} (hT:P.underlying t=some .bool) (a b:Bool) (w:World):(Op.equal t (.bool a) (.bool b)).run P w = .ok (a==b) w:=run_equalIn_bool hT 9999 a b w
theorem zEz (op:BinOp) (t:TypeId) (x y:Operand) (a b:Bool) (w:World):(eqGuard op t x y (.bool a) (.bool b)).run P w = .ok () w:=by
 unfold eqGuard;cases op<;>simp
theorem zMF {K:Value→World→Prop} {d:Option Tmp} {t:TypeId} {x y:Operand} {a b:Bool} (hT:P.underlying t=some .bool) (hx:σ x = .bool a) (hy:σ y = .bool b) (hk:K (.bool (a != b)) w):Runs P r ⟨d,.binOp .neq t x y t',ty,pos,af,g⟩ σ w K:=by
 refine zq (fun _ e=>by cases e) ?_ hk;simp [execOp,binOp,hx,hy,zEz,zFt hT]
 try (cases a<;>cases b<;>rfl)
theorem zLW {K:Value→World→Prop} {d:Option Tmp} {t:TypeId} {x y:Operand} {a b:Bool} (hT:P.underlying t=some .bool) (hx:σ x = .bool a) (hy:σ y = .bool b) (hk:K (.bool (a==b)) w):Runs P r ⟨d,.binOp .eql t x y t',ty,pos,af,g⟩ σ w K:=by
 refine zq (fun _ e=>by cases e) ?_ hk;simp [execOp,binOp,hx,hy,zEz,zFt hT]
theorem zON:prog.underlying 4=some .bool:=by kernel_rfl
theorem IsNum.zero:IsNum w (.agg #[.bool false,.slice none 0 0,.slice none 0 0]) 0:=⟨_,_,rfl,IsW.nil rfl,IsW.nil rfl⟩
end Go.Proofs.YtjiendlfobjanaaGreatDoor
namespace Go.Proofs.YtjiendlfobjanaaGreatDoor
open Go Go.RowKit Go.Proofs Tryz
set_option maxRecDepth 10000
set_option maxHeartbeats 2000000
attribute [local irreducible] Runs WPE CallK Ret
variable {a b n:Nat} {v:Value} {w:World}
theorem IsNum.mk' {s:Bool} {n d:Value} (ha:a≠0) (hb:b≠0) (hn:IsW w n (a/Nat.gcd a b)) (hd:IsW w d (if b/Nat.gcd a b=1 then 0 else b/Nat.gcd a b)):IsNum w (.agg #[.bool s,n,d]) (qOf s a b) :=
 ⟨n,d,by rw [zMd ha hb],by rw [zIi hb];exact hn,by rw [zKr hb];exact hd⟩
theorem IsW.form (h:IsW w v n):∃ p l c,v = .slice p l c∧(l=0↔n=0):=by
 obtain ⟨p,ds,c,h1,h2,h3,h4,h5⟩:=h;refine ⟨p,ds.length,c,h1,?_⟩;rw [List.length_eq_zero_iff,← h5];exact h4.zero.symm
theorem zBY {s:Bool} {n d:Value} (hn:IsW w n a) (hd:IsW w d b) (hb0:b≠0) (hfa:Fit a) (hfb:Fit b):Ret prog 102 #[.bool s,n,d] w (fun v w'=>IsNum w' v (qOf s a b)):=by
 obtain ⟨pn,ln,kn,rfl,hnz⟩:=hn.form;have E0:Ext w w:=Ext.refl w;refine J0 44 func102 rfl (rj fun K => ?_);refine K1 (zd zAa fun b1 w1 hb hE hB1 hs => ?_);have hgb1:w.heap.size≤b1:=by rw [hb];exact E0.size
 replace E0:=E0.trans hE;replace hn:=hn.ext hE;replace hd:=hd.ext hE;clear hE hs hb;refine rm [0,1,2,6] K ?_;refine zA (rJ fun K=>K1 (zG zX rfl (K8 rfl (rm [0,1,2,6,10] K ?_))));refine K0 rfl ?_ ?_<;>intro hc
 · have ha0:a=0:=hnz.1 (by have:=eq_of_beq hc;omega);clear hc;subst ha0;refine rj fun K=>K1 (zf (cs := #[.bool false,.slice none 0 0,.slice none 0 0]) (by kernel_rfl) (K1 (zt zHb rfl hB1 rfl (Nat.le_of_ble_eq_true rfl) (by decide) rfl fun w2 hU hN => ?_)));replace E0:=E0.upd hU hgb1;replace hn:=hn.upd hU hB1 (by decide);replace hd:=hd.upd hU hB1 (by decide);clear hB1;have hB1:=hN;clear hN hU;refine rm [0,6] K ?_;refine zB (zU (zQ ?_));exact ⟨rfl,_,zAD rfl rfl rfl zz hB1 rfl,E0,by rw [zKg];exact IsNum.zero⟩
 · have ha0:a≠0:=fun e=>by rw [hnz.2 e] at hc;cases hc
   clear hc;refine sk (zBO (fun ρ w'=>∃ vn vd,Keep ρ [(0,.bool s),(1,vn),(2,vd),(6,.pointer (some ⟨b1,0,none⟩))]∧Ext w w'∧IsW w' vn (a/Nat.gcd a b)∧IsW w' vd (b/Nat.gcd a b)∧Blk w' b1 37 [Value.bool false,Value.slice none 0 0,Value.slice none 0 0]) ?_ ?_)
   · refine zA ?_;rcases (show a=1∨(a≠1∧b=1)∨(a≠1∧b≠1) from by omega) with h1 | ⟨h1,h2⟩ | ⟨h1,h2⟩
     · have hab:a=1∨b=1:=Or.inl h1;refine rI fun K=>K1 (j3 E0 hn.ext hd.ext hB1.ext hb156 (zDL hn) fun v3_1 w2 E0 hn hd hB1 hr => ?_);obtain rfl:=hr.trans (congrArg Value.bool (decide_eq_true h1));refine K1 (zr rfl (mv (K3 (K3 (K3 (pk rfl (rs [0,1,2,6,19] K ?_)))))));refine wcf rfl (zm (zP ?_));have hg:Nat.gcd a b=1:=by rcases hab with e | e<;>rw [e]<;>simp
       exact ⟨rfl,_,_,(kp rfl),E0,by rw [hg,Nat.div_one];exact hn,by rw [hg,Nat.div_one];exact hd,hB1⟩
     · have hab:a=1∨b=1:=Or.inr h2;refine rI fun K=>K1 (j3 E0 hn.ext hd.ext hB1.ext hb156 (zDL hn) fun v3_1 w2 E0 hn hd hB1 hr => ?_);obtain rfl:=hr.trans (congrArg Value.bool (decide_eq_false h1));refine K1 (zr rfl (mv (K7 (K2 (j3 E0 hn.ext hd.ext hB1.ext hb156 (zDL hd) fun v3_5 w3 E0 hn hd hB1 hr => ?_)))));obtain rfl:=hr.trans (congrArg Value.bool (decide_eq_true h2));refine K2 (zr rfl (pk rfl (rs [0,1,2,6,19] K ?_)));refine wcf rfl (zm (zP ?_));have hg:Nat.gcd a b=1:=by rcases hab with e | e<;>rw [e]<;>simp
       exact ⟨rfl,_,_,(kp rfl),E0,by rw [hg,Nat.div_one];exact hn,by rw [hg,Nat.div_one];exact hd,hB1⟩
     · skip
       refine rI fun K=>K1 (j3 E0 hn.ext hd.ext hB1.ext hb156 (zDL hn) fun v3_1 w2 E0 hn hd hB1 hr => ?_);obtain rfl:=hr.trans (congrArg Value.bool (decide_eq_false h1));refine K1 (zr rfl (mv (K7 (K2 (j3 E0 hn.ext hd.ext hB1.ext hb156 (zDL hd) fun v3_5 w3 E0 hn hd hB1 hr => ?_)))));obtain rfl:=hr.trans (congrArg Value.bool (decide_eq_false h2));refine K2 (zr rfl (pk rfl (rs [0,1,2,6,19] K ?_)));refine wct rfl (rJ fun K=>mv (K1 (j3 E0 hn.ext hd.ext hB1.ext hb155 (zEG hn hd hfa hfb) fun v4_2 w4 E0 hn hd hB1 hgv => ?_)));have hg0:Nat.gcd a b≠0:=fun e=>ha0 (Nat.gcd_eq_zero_iff.1 e).1;have hfg:Fit (Nat.gcd a b):=hfa.le (Nat.le_of_dvd (Nat.pos_of_ne_zero ha0) (Nat.gcd_dvd_left a b));refine ag (rm [0,1,2,6,7] K ?_);refine rJ fun K=>K1 (j4 E0 hn.ext hd.ext hB1.ext hgv.ext hb156 (zDL hgv) fun v5_1 w5 E0 hn hd hB1 hgv hr => ?_);subst hr;refine K1 (zr rfl (rm [0,1,2,6,7,25] K ?_));refine K0 rfl ?_ ?_<;>intro hc
       · clear hc;refine rJ fun K=>mv (K1 (j4 E0 hn.ext hd.ext hB1.ext hgv.ext hb191 (zPR hn hgv hfa hfg hg0) fun v6_2 w6 E0 hn hd hB1 hgv hr => ?_));obtain ⟨q1,r1,rfl,hq2,-⟩:=hr;refine mv (xt rfl (xt rfl (ag (rm [0,1,2,6,7] K ?_))));refine rI fun K=>mv (K1 (j5 E0 hn.ext hd.ext hB1.ext hgv.ext hq2.ext hb191 (zPR hd hgv hfb hfg hg0) fun v7_2 w7 E0 hn hd hB1 hgv hq2 hr => ?_));obtain ⟨q2,r2,rfl,hq4,-⟩:=hr;exact mv (xt rfl (xt rfl (ag (rl K (zP ⟨rfl,_,_,(kp rfl),E0,hq2,hq4,hB1⟩)))))
       · have hg1:Nat.gcd a b=1:=by simpa using hc
         clear hc;refine zm (zP ?_);have hg:Nat.gcd a b=1:=hg1;exact ⟨rfl,_,_,(kp rfl),E0,by rw [hg,Nat.div_one];exact hn,by rw [hg,Nat.div_one];exact hd,hB1⟩
   · clear E0 hn hd hB1;rintro ρ2 w2 ⟨vn,vd,hk,E0,hn,hd,hB1⟩;obtain ⟨p1,l1,k1,rfl,-⟩:=hn.form;obtain ⟨p2,l2,k2,rfl,-⟩:=hd.form;refine wpe_k _ hk ?_;clear hk ρ2;refine zA (rJ fun K=>K1 (j3 E0 hn.ext hd.ext hB1.ext hb156 (zDL hd) fun v8_1 w2 E0 hn hd hB1 hr => ?_));subst hr;refine rm [0,1,2,6,39] K ?_;refine K0 rfl ?_ ?_<;>intro hc
     · have hd1:b/Nat.gcd a b=1:=of_decide_eq_true hc;clear hc;refine K6 fun K=>ag (rs [0,1,2,6] K ?_);refine rJ fun K=>mv (mv (K1 (zf (cs := #[.bool s,.slice p1 l1 k1,.slice none 0 0]) (by kernel_rfl) (K1 (zt zHb rfl hB1 rfl (Nat.le_of_ble_eq_true rfl) (by decide) rfl fun w3 hU hN => ?_)))));replace E0:=E0.upd hU hgb1;replace hn:=hn.upd hU hB1 (by decide);replace hd:=hd.upd hU hB1 (by decide);clear hB1;have hB1:=hN;clear hN hU;refine rm [0,6] K ?_;refine zB (zQ ?_);exact ⟨rfl,_,zAD rfl rfl rfl zz hB1 rfl,E0,IsNum.mk' ha0 hb0 hn (by rw [if_pos hd1];exact IsW.nil rfl)⟩
     · have hd1:b/Nat.gcd a b≠1:=of_decide_eq_false hc;clear hc;refine sk (rJ fun K=>mv (mv (K1 (zf (cs := #[.bool s,.slice p1 l1 k1,.slice p2 l2 k2]) (by kernel_rfl) (K1 (zt zHb rfl hB1 rfl (Nat.le_of_ble_eq_true rfl) (by decide) rfl fun w3 hU hN => ?_))))));replace E0:=E0.upd hU hgb1;replace hn:=hn.upd hU hB1 (by decide);replace hd:=hd.upd hU hB1 (by decide);clear hB1;have hB1:=hN;clear hN hU;refine rm [0,6] K ?_;refine zB (zQ ?_);exact ⟨rfl,_,zAD rfl rfl rfl zz hB1 rfl,E0,IsNum.mk' ha0 hb0 hn (by rw [if_neg hd1];exact hd)⟩
variable {u:Value} {x y:Rat}
theorem zDb (a b:Nat):(a*b).log2≤a.log2+b.log2+1:=by
 by_cases h0:a*b=0
 · rw [h0];exact Nat.zero_le _
 · have ha:a≠0:=fun e=>h0 (by rw [e,Nat.zero_mul]);have hb:b≠0:=fun e=>h0 (by rw [e,Nat.mul_zero]);have h1:=(Nat.log2_lt ha).1 (Nat.lt_succ_self _);have h2:=(Nat.log2_lt hb).1 (Nat.lt_succ_self _);have h3:a*b<2^(a.log2+1)*2^(b.log2+1):=Nat.mul_lt_mul'' h1 h2;rw [← Nat.pow_add] at h3;have:=(Nat.log2_lt h0).2 h3;omega
theorem log2_add_le (a b:Nat):(a+b).log2≤max a.log2 b.log2+1:=by
 by_cases h0:a+b=0
 · rw [h0];exact Nat.zero_le _
 · have h1:∀ n L:Nat,n.log2≤L→n<2^(L+1):=fun n L h=>by
    by_cases hn:n=0
    · rw [hn];exact Nat.pow_pos (by decide)
    · exact (Nat.log2_lt hn).1 (by omega)
   have h2:=h1 a (max a.log2 b.log2) (Nat.le_max_left _ _);have h3:=h1 b (max a.log2 b.log2) (Nat.le_max_right _ _);have h4:a+b<2^(max a.log2 b.log2+1+1):=by rw [Nat.pow_succ 2 (max a.log2 b.log2+1)];omega
   have:=(Nat.log2_lt h0).2 h4;omega
theorem room_of (h:rroom x y=true):x.num.natAbs.log2+x.den.log2+(y.num.natAbs.log2+y.den.log2)<1099511627776:=of_decide_eq_true h
theorem zEw (h:n.log2<8796093022208):Fit n:=h
structure Fits (x y:Rat):Prop where
 xn:Fit x.num.natAbs
 xd:Fit x.den
 yn:Fit y.num.natAbs
 yd:Fit y.den
 nn:Fit (x.num.natAbs*y.num.natAbs)
 nd:Fit (x.num.natAbs*y.den)
 dn:Fit (x.den*y.num.natAbs)
 dd:Fit (x.den*y.den)
 nd':Fit (y.num.natAbs*x.den)
 add:Fit (x.num.natAbs*y.den+y.num.natAbs*x.den)
theorem zHC (h:rroom x y=true):Fits x y:=by
 have h0:=room_of h;have k1:=zDb x.num.natAbs y.num.natAbs;have k2:=zDb x.num.natAbs y.den;have k3:=zDb x.den y.num.natAbs;have k4:=zDb x.den y.den;have k5:=zDb y.num.natAbs x.den;have k6:=log2_add_le (x.num.natAbs*y.den) (y.num.natAbs*x.den);exact ⟨zEw (by omega),zEw (by omega),zEw (by omega),zEw (by omega),zEw (by omega),zEw (by omega),zEw (by omega),zEw (by omega),zEw (by omega),zEw (by omega)⟩
theorem IsNum.form {q:Rat} (h:IsNum w v q):∃ p1 l1 k1 p2 l2 k2,v = .agg #[.bool (decide (q<0)),.slice p1 l1 k1,.slice p2 l2 k2]∧(l1=0↔q=0)∧(l2=0↔q.den=1)∧IsW w (.slice p1 l1 k1) q.num.natAbs∧IsW w (.slice p2 l2 k2) (if q.den=1 then 0 else q.den):=by
 obtain ⟨n,d,rfl,h1,h2⟩:=h;obtain ⟨p1,l1,k1,rfl,e1⟩:=h1.form;obtain ⟨p2,l2,k2,rfl,e2⟩:=h2.form;refine ⟨p1,l1,k1,p2,l2,k2,rfl,?_,?_,h1,h2⟩
 · rw [e1,Int.natAbs_eq_zero,Rat.num_eq_zero]
 · rw [e2];have:=q.den_pos;by_cases h:q.den=1
   · simp [h]
   · simp [h];omega
theorem zIb (x:Rat):decide (-x<0)=(!decide (x<0)&&decide (x≠0)):=by
 have h1:=zDK x;have h2:=zDK (-x);rw [Rat.neg_num] at h2;have h3:x≠0↔x.num≠0:=not_congr Rat.num_eq_zero.symm;by_cases a:x.num<0
 · rw [decide_eq_true (h1.2 a),decide_eq_false (fun e=>by have:=h2.1 e;omega)];rfl
 · rw [decide_eq_false (fun e=>a (h1.1 e))];by_cases b:x.num=0
   · rw [decide_eq_false (fun e=>by have:=h2.1 e;omega),decide_eq_false (fun e=>(h3.1 e) b)];rfl
   · rw [decide_eq_true (h2.2 (by omega)),decide_eq_true (h3.2 b)];rfl
theorem IsNum.neg_mk {n d:Value} {s:Bool} (hs:s=(!decide (x<0)&&decide (x≠0))) (hn:IsW w n x.num.natAbs) (hd:IsW w d (if x.den=1 then 0 else x.den)):IsNum w (.agg #[.bool s,n,d]) (-x) :=
 ⟨n,d,by rw [zIb,hs],by rw [Rat.neg_num,Int.natAbs_neg];exact hn,by rw [Rat.neg_den];exact hd⟩
theorem rabs_neg (x:Rat):decide (rabs x<0)=false:=by
 have h1:=zDK x;unfold rabs;by_cases h:x<0
 · rw [if_pos h,zIb,decide_eq_true h];rfl
 · rw [if_neg h,decide_eq_false h]
theorem zNQ (x:Rat):(rabs x).num.natAbs=x.num.natAbs∧(rabs x).den=x.den:=by
 unfold rabs;by_cases h:x<0
 · rw [if_pos h,Rat.neg_num,Int.natAbs_neg,Rat.neg_den];exact ⟨rfl,rfl⟩
 · rw [if_neg h];exact ⟨rfl,rfl⟩
theorem zMf (n:Int):qOf (decide (n<0)) n.natAbs 1=(n:Rat):=by
 have e:sgn (decide (n<0)) n.natAbs=n:=by
  by_cases h:n<0
  · rw [decide_eq_true h];simp only [sgn,if_true];omega
  · rw [decide_eq_false h];simp only [sgn,Bool.false_eq_true,if_false];omega
 rw [qOf,e];exact Rat.mkRat_self (n:Rat)
theorem zGE:Fit 1:=zEw (by decide +kernel)
theorem zAg (hx:IsNum w v x):Ret prog 19 #[v] w (fun u _=>u = .int .i64 (rsign x)):=by
 obtain ⟨p1,l1,k1,p2,l2,k2,rfl,hz1,hz2,hxn,hxd⟩:=hx.form;refine J0 11 func19 rfl (rj fun K => ?_);refine K1 (zAA fun b1 w1 hb hE hB1 hs => ?_);have hgb1:w.heap.size≤b1:=by rw [hb];exact E0.size
 replace E0:=E0.trans hE;clear hE hs hb;refine ag (rm [1] K ?_);refine zA (zD (zA ?_));rcases (show x=0∨(x≠0∧x<0)∨(x≠0∧¬ x<0) from by by_cases a:x=0;exact Or.inl a;by_cases b:x<0;exact Or.inr (Or.inl ⟨a,b⟩);exact Or.inr (Or.inr ⟨a,b⟩)) with h1 | ⟨h1,h2⟩ | ⟨h1,h2⟩
 · obtain rfl:=hz1.2 h1;refine K6 fun K=>K1 (zJ zCS rfl (K1 (zI zAn rfl hB1 rfl (K1 (zG zX rfl (K8 rfl (ag (rs [1,3] K ?_))))))));refine wct rfl (rj fun K=>ag (rm [2] K ?_));refine zB (zT (zU (zQ ?_)));exact ⟨rfl,_,zg rfl rfl,E0,by rw [h1];rfl⟩
 · have hl:l1≠0:=fun e=>h1 (hz1.1 e);refine K6 fun K=>K1 (zJ zCS rfl (K1 (zI zAn rfl hB1 rfl (K1 (zG zX rfl (K8 rfl (ag (rs [1,3] K ?_))))))));refine wcf (congrArg Value.bool (beq_eq_false_iff_ne.2 (by omega))) (rj fun K=>K1 (zJ zDM rfl (K1 (zI zCj rfl hB1 rfl (ag (rm [8] K ?_))))));refine wct (congrArg Value.bool (decide_eq_true h2)) (rj fun K=>ag (rm [2] K ?_));refine zB (zT (zU (zQ ?_)));exact ⟨rfl,_,zg rfl rfl,E0,by rw [rsign,Int.sign_eq_neg_one_of_neg ((zDK x).1 h2)];rfl⟩
 · have hl:l1≠0:=fun e=>h1 (hz1.1 e);refine K6 fun K=>K1 (zJ zCS rfl (K1 (zI zAn rfl hB1 rfl (K1 (zG zX rfl (K8 rfl (ag (rs [1,3] K ?_))))))));refine wcf (congrArg Value.bool (beq_eq_false_iff_ne.2 (by omega))) (rj fun K=>K1 (zJ zDM rfl (K1 (zI zCj rfl hB1 rfl (ag (rm [8] K ?_))))));refine wcf (congrArg Value.bool (decide_eq_false h2)) (zm (zS (zN (rj fun K=>ag (rm [2] K ?_)))));refine zB (zQ ?_);exact ⟨rfl,_,zg rfl rfl,E0,by rw [rsign,Int.sign_eq_one_of_pos (by have k1:=zDK x;have k2:x.num≠0:=fun e=>h1 (Rat.num_eq_zero.1 e);have k3:¬ x.num<0:=fun e=>h2 (k1.2 e);omega)];rfl⟩
theorem zPq (hx:IsNum w v x):Ret prog 236 #[v] w (fun u w'=>IsNum w' u (rabs x)):=by
 obtain ⟨p1,l1,k1,p2,l2,k2,rfl,hz1,hz2,hxn,hxd⟩:=hx.form;refine J0 8 func236 rfl (rj fun K => ?_);refine K1 (zAA fun b1 w1 hb hE hB1 hs => ?_);have hgb1:w.heap.size≤b1:=by rw [hb];exact E0.size
 replace E0:=E0.trans hE;replace hxn:=hxn.ext hE;replace hxd:=hxd.ext hE;clear hE hs hb;refine K1 (zd zAa fun b2 w2 hb hE hB2 hs => ?_);have hgb2:w.heap.size≤b2:=by rw [hb];exact E0.size
 have ne_b1_b2:b1≠b2:=by have:=hB1.lt;omega
 replace E0:=E0.trans hE;replace hxn:=hxn.ext hE;replace hxd:=hxd.ext hE;replace hB1:=hB1.ext hE;clear hE hs hb;refine rm [1,2] K ?_;refine rj fun K=>K1 (zJ zCS rfl (K1 (zI zAn rfl hB1 rfl (K1 (zJ zGS rfl (K1 (zI zAn rfl hB1 rfl (K1 (zf (cs := #[.bool false,.slice p1 l1 k1,.slice p2 l2 k2]) (by kernel_rfl) ?_)))))))));refine K1 (zK rfl (⟨.slice p1 l1 k1,.slice p2 l2 k2,by rw [rabs_neg];rfl,by rw [(zNQ x).1];exact hxn,by rw [(zNQ x).2];exact hxd⟩:IsNum _ _ (rabs x)) (Cell3.of hB2 rfl) fun _ w9 hU hN => ?_);replace E0:=E0.upd hU hgb2;obtain ⟨cs,hB4,hl4,hN4⟩:=hN;refine rm [2] K ?_;exact zB (zQ ⟨rfl,_,zAD rfl rfl rfl zz hB4 hl4,E0,hN4⟩)
theorem zNn (hx:IsNum w v x):Ret prog 132 #[v] w (fun u w'=>IsNum w' u (-x)):=by
 obtain ⟨p1,l1,k1,p2,l2,k2,rfl,hz1,hz2,hxn,hxd⟩:=hx.form;refine J0 17 func132 rfl (rj fun K => ?_);refine K1 (zAA fun b1 w1 hb hE hB1 hs => ?_);have hgb1:w.heap.size≤b1:=by rw [hb];exact E0.size
 replace E0:=E0.trans hE;replace hxn:=hxn.ext hE;replace hxd:=hxd.ext hE;clear hE hs hb;refine K1 (zd zAa fun b2 w2 hb hE hB2 hs => ?_);have hgb2:w.heap.size≤b2:=by rw [hb];exact E0.size
 have ne_b1_b2:b1≠b2:=by have:=hB1.lt;omega
 replace E0:=E0.trans hE;replace hxn:=hxn.ext hE;replace hxd:=hxd.ext hE;replace hB1:=hB1.ext hE;clear hE hs hb;refine rm [1,2] K ?_;refine zA ?_;rcases (show x<0∨¬ x<0 from Classical.em _) with h1 | h1
 · rw [decide_eq_true h1] at hB1;refine K6 fun K=>K1 (zJ zDM rfl (K1 (zI zCj rfl hB1 rfl (K1 (zr rfl (mv (K3 (K3 (K3 (K3 (pk rfl (K1 (zJ zCS rfl (K1 (zI zAn rfl hB1 rfl (K1 (zJ zGS rfl (K1 (zI zAn rfl hB1 rfl (K1 (zf (cs := #[.bool false,.slice p1 l1 k1,.slice p2 l2 k2]) (by kernel_rfl) ?_)))))))))))))))))))));refine K1 (zK rfl (IsNum.neg_mk (x:=x) (by rw [decide_eq_true h1];rfl) hxn hxd) (Cell3.of hB2 rfl) fun _ w9 hU hN => ?_);replace E0:=E0.upd hU hgb2;obtain ⟨cs,hB4,hl4,hN4⟩:=hN;refine rs [2] K ?_;exact zB (zQ ⟨rfl,_,zAD rfl rfl rfl zz hB4 hl4,E0,hN4⟩)
 · rw [decide_eq_false h1] at hB1;refine K6 fun K=>K1 (zJ zDM rfl (K1 (zI zCj rfl hB1 rfl (K1 (zr rfl (mv (K2 (zJ zCS rfl (K2 (zI zAn rfl hB1 rfl (K2 (zG zX rfl (K2 (zF rfl rfl rfl (pk rfl (K1 (zJ zCS rfl (K1 (zI zAn rfl hB1 rfl (K1 (zJ zGS rfl (K1 (zI zAn rfl hB1 rfl (K1 (zf (cs := #[.bool (decide ((l1:Int)>0)),.slice p1 l1 k1,.slice p2 l2 k2]) (by kernel_rfl) ?_)))))))))))))))))))))))));refine K1 (zK rfl (IsNum.neg_mk (x:=x) (by rw [decide_eq_false h1];by_cases e:x=0;(have:=hz1.2 e;subst this;simp [e]);(have:l1≠0:=fun z=>e (hz1.1 z);simp [e];omega)) hxn hxd) (Cell3.of hB2 rfl) fun _ w9 hU hN => ?_);replace E0:=E0.upd hU hgb2;obtain ⟨cs,hB4,hl4,hN4⟩:=hN;refine rs [2] K ?_;exact zB (zQ ⟨rfl,_,zAD rfl rfl rfl zz hB4 hl4,E0,hN4⟩)
theorem zKd (h:n≤9223372036854775808):Fit n:=by
 have:=zER h;have e:(9223372036854775808:Nat).log2=63:=by decide +kernel
 exact zEw (by omega)
theorem zNE:prog.underlying 2=some (.int .i64):=by kernel_rfl
theorem zMy:prog.underlying 164=some (.int .u64):=by kernel_rfl
theorem zDO {n:Int} (h0 : -9223372036854775808≤n) (h9:n≤9223372036854775807):Ret prog 38 #[.int .i64 n] w (fun u w'=>IsNum w' u (n:Rat)):=by
 refine J0 16 func38 rfl (rj fun K => ?_);refine K1 (zd zAa fun b1 w1 hb hE hB1 hs => ?_);have hgb1:w.heap.size≤b1:=by rw [hb];exact E0.size
 replace E0:=E0.trans hE;clear hE hs hb;refine rm [0,2] K ?_;refine zA (zA ?_);rcases (show n<0∨¬ n<0 from Classical.em _) with h1 | h1
 · skip
   refine rI fun K=>K8 rfl (rs [0,2,4] K ?_);refine wct (congrArg Value.bool (decide_eq_true h1)) (rJ fun K=>K1 (zCT zNE zMy rfl (K1 (zKQ rfl ?_))));rw [show IntKind.u64.wrap (0-IntKind.u64.wrap n)=((n.natAbs:Nat):Int) from by rw [zBu,zBu];omega];refine K1 (j1 E0 hB1.ext hb105 (zFC (by omega)) fun v2_3 w2 E0 hB1 hw1=>K1 (j2 E0 hB1.ext hw1.ext hb106 (zFy _) fun v2_4 w3 E0 hB1 hw1 ho1=>K1 (j3 E0 hB1.ext hw1.ext ho1.ext hb102 (zBY hw1 ho1 (by decide) (zKd (by omega)) zGE) fun v2_5 w4 E0 hB1 hw1 ho1 hq1 => ?_)));rw [show (true:Bool)=decide (n<0) from (decide_eq_true h1).symm,zMf] at hq1;refine K1 (zK rfl hq1 (Cell3.of hB1 rfl) fun _ w9 hU hN => ?_);replace E0:=E0.upd hU hgb1;obtain ⟨cs,hB4,hl4,hN4⟩:=hN;refine rm [2] K ?_;exact zB (zU (zQ ⟨rfl,_,zAD rfl rfl rfl zz hB4 hl4,E0,hN4⟩))
 · skip
   refine rI fun K=>K8 rfl (rs [0,2,4] K ?_);refine wcf (congrArg Value.bool (decide_eq_false h1)) (sk (rJ fun K=>K1 (zCT zNE zMy rfl ?_)));rw [show IntKind.u64.wrap n=((n.natAbs:Nat):Int) from by rw [zBu];omega];refine K1 (j1 E0 hB1.ext hb105 (zFC (by omega)) fun v3_2 w2 E0 hB1 hw1=>K1 (j2 E0 hB1.ext hw1.ext hb106 (zFy _) fun v3_3 w3 E0 hB1 hw1 ho1=>K1 (j3 E0 hB1.ext hw1.ext ho1.ext hb102 (zBY hw1 ho1 (by decide) (zKd (by omega)) zGE) fun v3_4 w4 E0 hB1 hw1 ho1 hq1 => ?_)));rw [show (false:Bool)=decide (n<0) from (decide_eq_false h1).symm,zMf] at hq1;refine K1 (zK rfl hq1 (Cell3.of hB1 rfl) fun _ w9 hU hN => ?_);replace E0:=E0.upd hU hgb1;obtain ⟨cs,hB4,hl4,hN4⟩:=hN;refine rm [2] K ?_;exact zB (zQ ⟨rfl,_,zAD rfl rfl rfl zz hB4 hl4,E0,hN4⟩)
theorem zHe (hx:IsNum w u x) (hy:IsNum w v y) (hr:rroom x y=true):Ret prog 101 #[u,v] w (fun r w'=>IsNum w' r (x*y)):=by
 have hx0:=hx;have hy0:=hy;obtain ⟨xn,xd,rfl,hxn,hxd⟩:=hx0;obtain ⟨yn,yd,rfl,hyn,hyd⟩:=hy0;have hf:=zHC hr;refine J0 21 func101 rfl (rj fun K => ?_);refine K1 (zAA fun b1 w1 hb hE hB1 hs => ?_);have hgb1:w.heap.size≤b1:=by rw [hb];exact E0.size
 replace E0:=E0.trans hE;replace hx:=hx.ext hE;replace hy:=hy.ext hE;replace hxn:=hxn.ext hE;replace hyn:=hyn.ext hE;clear hE hs hb;refine K1 (zAA fun b2 w2 hb hE hB2 hs => ?_);have hgb2:w.heap.size≤b2:=by rw [hb];exact E0.size
 have ne_b1_b2:b1≠b2:=by have:=hB1.lt;omega
 replace E0:=E0.trans hE;replace hx:=hx.ext hE;replace hy:=hy.ext hE;replace hxn:=hxn.ext hE;replace hyn:=hyn.ext hE;replace hB1:=hB1.ext hE;clear hE hs hb;refine K1 (zd zAa fun b3 w3 hb hE hB3 hs => ?_);have hgb3:w.heap.size≤b3:=by rw [hb];exact E0.size
 have ne_b1_b3:b1≠b3:=by have:=hB1.lt;omega
 have ne_b2_b3:b2≠b3:=by have:=hB2.lt;omega
 replace E0:=E0.trans hE;replace hx:=hx.ext hE;replace hy:=hy.ext hE;replace hxn:=hxn.ext hE;replace hyn:=hyn.ext hE;replace hB1:=hB1.ext hE;replace hB2:=hB2.ext hE;clear hE hs hb;refine rm [2,3,4] K ?_;refine zA ?_;have hnw:NoW [b3] _:=noW1 hB3 (by decide)
 refine zCt [⟨16,b3,Cell3 b3,NumAt b3 (x*y)⟩] [([(2,none)],none),([(5,some 0)],none),([(3,none)],none),([(7,some 0)],none),([(6,some 2),(8,some 0)],none),([(2,none)],none),([(10,some 0)],none),([(3,none)],none),([(12,some 0)],none),([(11,some 2),(13,some 0)],none),([(2,none)],none),([(15,some 0)],none),([(3,none)],none),([(17,some 0)],none),([(16,some 2),(18,some 0)],none),([(9,some 10),(14,some 5),(19,some 0)],none),([(4,none),(20,some 0)],none)] mixed (by kernel_rfl) (by kernel_rfl) (by kernel_rfl) (by simp) (by kernel_rfl) (all1 (zGF hB3 rfl)) fun K hK=>dsv rfl (fun σ wx hE hk=>zJ zDM hk.1 ⟨Ext.refl _,rfl⟩) (dsv rfl (fun σ wx hE hk=>zI zCj hk.1 (hB1.extS hE (nin1 ne_b1_b3)) rfl ⟨Ext.refl _,rfl⟩) (dsv rfl (fun σ wx hE hk=>zJ zDM hk.1 ⟨Ext.refl _,rfl⟩) (dsv rfl (fun σ wx hE hk=>zI zCj hk.1 (hB2.extS hE (nin1 ne_b2_b3)) rfl ⟨Ext.refl _,rfl⟩) (dsv rfl (fun σ wx hE hk=>zMF zON hk.1 hk.2.1 ⟨Ext.refl _,rfl⟩) (dsv rfl (fun σ wx hE hk=>zJ zCS hk.1 ⟨Ext.refl _,rfl⟩) (dsv rfl (fun σ wx hE hk=>zI zAn hk.1 (hB1.extS hE (nin1 ne_b1_b3)) rfl ⟨Ext.refl _,rfl⟩) (dsv rfl (fun σ wx hE hk=>zJ zCS hk.1 ⟨Ext.refl _,rfl⟩) (dsv rfl (fun σ wx hE hk=>zI zAn hk.1 (hB2.extS hE (nin1 ne_b2_b3)) rfl ⟨Ext.refl _,rfl⟩) (dsn (fun v w'=>IsW w' v (x.num.natAbs*y.num.natAbs)) rfl (fun _ _ _ h1 hx h=>h.extS hx (hnw.ext h1)) (fun σ wx hE hk=>zH hb103 (CallK.of_ret (zEU (IsW.of_eq hk.1 (hxn.extS hE hnw)) (IsW.of_eq hk.2.1 (hyn.extS hE hnw)) hf.xn hf.yn) fun v w2 hX hr=>⟨hX,hr⟩) rfl) (dsv rfl (fun σ wx hE hk=>zp zz hk.1 (hB1.extS hE (nin1 ne_b1_b3)) (Nat.le_of_ble_eq_true rfl) ⟨Ext.refl _,rfl⟩) (dsn (fun v w'=>IsW w' v (x.den)) rfl (fun _ _ _ h1 hx h=>h.extS hx (hnw.ext h1)) (fun σ wx hE hk=>zH hb104 (CallK.of_ret (zCJ (IsNum.of_eq hk.1 (hx.extS hE hnw))) fun v w2 hX hr=>⟨hX,hr⟩) rfl) (dsv rfl (fun σ wx hE hk=>zp zz hk.1 (hB2.extS hE (nin1 ne_b2_b3)) (Nat.le_of_ble_eq_true rfl) ⟨Ext.refl _,rfl⟩) (dsn (fun v w'=>IsW w' v (y.den)) rfl (fun _ _ _ h1 hx h=>h.extS hx (hnw.ext h1)) (fun σ wx hE hk=>zH hb104 (CallK.of_ret (zCJ (IsNum.of_eq hk.1 (hy.extS hE hnw))) fun v w2 hX hr=>⟨hX,hr⟩) rfl) ?_)))))))))))))
 refine dsn (fun v w'=>IsW w' v (x.den*y.den)) rfl (fun _ _ _ h1 hx h=>h.extS hx (hnw.ext h1)) (fun σ wx hE hk=>zH hb103 (CallK.of_ret (zEU hk.1 hk.2.1 hf.xd hf.yd) fun v w2 hX hr=>⟨hX,hr⟩) rfl) ?_;refine dsn (fun v w'=>IsNum w' v (x*y)) rfl (fun _ _ _ h1 hx h=>h.extS hx (hnw.ext h1)) (fun σ wx hE hk=>zH hb102 (CallK.eq3 hk.1 rfl rfl (CallK.of_ret (zBY hk.2.1 hk.2.2.1 (Nat.mul_ne_zero x.den_nz y.den_nz) hf.nn hf.dd) fun v w2 hX hr=>⟨hX,by rw [q_mul];exact hr⟩)) rfl) ?_;refine dss _ rfl (fun σ wx hE hpre hk=>zAy hk.1 hk.2.1 hpre) (zIB (hK _ fun wq hS hP => ?_));rintro _ rfl _ rfl _ rfl _ rfl _ rfl _ rfl _ rfl _ rfl _ rfl v14 N14 _ rfl v16 N16 _ rfl v18 N18 v19 N19 v20 N20 _ _;refine zn ?_;obtain ⟨⟨cs,hB4,hl4,hN4⟩,-⟩:=hP;replace E0:=E0.updS hS hgb3;refine zN (K5 [4] ?_);exact zB (zQ ⟨rfl,_,zAD rfl rfl rfl zz hB4 hl4,E0,hN4⟩)
variable {P:Program} {T T2 ty:TypeId} {af:Array Edge} {g:Option (Nat×Bool)} {k':IntKind} {pos:String} {r:Option Nat} {σ:Operand→Value}
theorem IsW.formF (h:IsW w v n) (hf:Fit n):∃ p l c,v = .slice p l c∧(l=0↔n=0)∧l≤137438953473:=by
 obtain ⟨p,ds,c,h1,h2,h3,h4,h5⟩:=h;refine ⟨p,ds.length,c,h1,?_,h4.fit (h5 ▸ hf)⟩;rw [List.length_eq_zero_iff,← h5];exact h4.zero.symm
theorem IsNum.formF {q:Rat} (h:IsNum w v q) (hfn:Fit q.num.natAbs) (hfd:Fit q.den):∃ p1 l1 k1 p2 l2 k2,v = .agg #[.bool (decide (q<0)),.slice p1 l1 k1,.slice p2 l2 k2]∧(l1=0↔q=0)∧(l2=0↔q.den=1)∧IsW w (.slice p1 l1 k1) q.num.natAbs∧IsW w (.slice p2 l2 k2) (if q.den=1 then 0 else q.den)∧l1≤137438953473∧l2≤137438953473:=by
 obtain ⟨n,d,rfl,h1,h2⟩:=h;have hfd':Fit (if q.den=1 then 0 else q.den):=hfd.le (by split<;>omega);obtain ⟨p1,l1,k1,rfl,e1,b1⟩:=h1.formF hfn;obtain ⟨p2,l2,k2,rfl,e2,b2⟩:=h2.formF hfd';refine ⟨p1,l1,k1,p2,l2,k2,rfl,?_,?_,h1,h2,b1,b2⟩
 · rw [e1,Int.natAbs_eq_zero,Rat.num_eq_zero]
 · rw [e2];have:=q.den_pos;by_cases h:q.den=1
   · simp [h]
   · simp [h];omega
theorem zIC {K:Value→World→Prop} {d:Option Tmp} {x y:Operand} {k:IntKind} {a b:Int} (hx:σ x = .int k a) (hy:σ y = .int k' b) (hk:K (.int k (if b<a then b else a)) w) :
 Runs P r ⟨d,.call { callee := .builtin .min,args := #[x,y],argTypes := #[T,T2] },ty,pos,af,g⟩ σ w K:=by
 refine zq (fun _ e=>by cases e) ?_ hk;simp [execOp,resolve,hx,hy,invoke,builtin,Builtin.min_,Builtin.min2]
theorem zCG {K:Value→World→Prop} {d:Option Tmp} {x y:Operand} {k:IntKind} {a b:Int} (hx:σ x = .int k a) (hy:σ y = .int k' b) (hk:K (.int k (if a<b then b else a)) w) :
 Runs P r ⟨d,.call { callee := .builtin .max,args := #[x,y],argTypes := #[T,T2] },ty,pos,af,g⟩ σ w K:=by
 refine zq (fun _ e=>by cases e) ?_ hk;simp [execOp,resolve,hx,hy,invoke,builtin,Builtin.max_,Builtin.max2]
def rcmpI (x y:Rat):Int:=if x<y then -1 else if x=y then 0 else 1
theorem zNF {c:Int} (h:(x.num*y.den<y.num*x.den∧c = -1)∨(x.num*y.den=y.num*x.den∧c=0)∨(y.num*x.den<x.num*y.den∧c=1)):c=rcmpI x y:=by
 unfold rcmpI;have hl:=Rat.lt_iff x y;have he:x=y→x.num*y.den=y.num*x.den:=fun e=>by rw [e]
 rcases h with ⟨h1,h2⟩ | ⟨h1,h2⟩ | ⟨h1,h2⟩
 · rw [if_pos (hl.2 h1),h2]
 · have hxy:x=y:=by
    have e1:=Rat.mkRat_self x;have e2:=Rat.mkRat_self y;rw [← e1,← e2];exact (Rat.mkRat_eq_iff x.den_nz y.den_nz).2 h1
   have h3:¬ x<y:=fun e=>by have:=hl.1 e;omega
   rw [if_neg h3,if_pos hxy,h2]
 · have h3:¬ x<y:=fun e=>by have:=hl.1 e;omega
   have h4:¬ x=y:=fun e=>by have:=he e;omega
   rw [if_neg h3,if_neg h4,h2]
theorem cmp_signs (h:rsign x≠rsign y):(if (-1:Int)<(if IntKind.i64.wrap (rsign x-rsign y)<1 then IntKind.i64.wrap (rsign x-rsign y) else 1) then (if IntKind.i64.wrap (rsign x-rsign y)<1 then IntKind.i64.wrap (rsign x-rsign y) else 1) else -1)=rcmpI x y:=by
 have hx:(0:Int)<x.den:=by have:=x.den_pos;omega
 have hy:(0:Int)<y.den:=by have:=y.den_pos;omega
 refine zNF ?_;unfold rsign at h ⊢;have pos:∀ {a b:Int},0<a→0<b→0<a*b:=fun h1 h2=>Int.mul_pos h1 h2;have neg:∀ {a b:Int},a<0→0<b→a*b<0:=fun h1 h2=>Int.mul_neg_of_neg_of_pos h1 h2;have zer:∀ {a b:Int},a=0→a*b=0:=fun h1=>by rw [h1,Int.zero_mul]
 rcases Int.lt_trichotomy x.num 0 with a | a | a<;>rcases Int.lt_trichotomy y.num 0 with b | b | b
 · rw [Int.sign_eq_neg_one_of_neg a,Int.sign_eq_neg_one_of_neg b] at h;exact absurd rfl h
 · rw [Int.sign_eq_neg_one_of_neg a,b];exact Or.inl ⟨by have:=neg a hy;omega,by decide⟩
 · rw [Int.sign_eq_neg_one_of_neg a,Int.sign_eq_one_of_pos b];exact Or.inl ⟨by have:=neg a hy;have:=pos b hx;omega,by decide⟩
 · rw [a,Int.sign_eq_neg_one_of_neg b];exact Or.inr (Or.inr ⟨by have:=neg b hx;omega,by decide⟩)
 · rw [a,b] at h;exact absurd rfl h
 · rw [a,Int.sign_eq_one_of_pos b];exact Or.inl ⟨by have:=pos b hx;omega,by decide⟩
 · rw [Int.sign_eq_one_of_pos a,Int.sign_eq_neg_one_of_neg b];exact Or.inr (Or.inr ⟨by have:=pos a hy;have:=neg b hx;omega,by decide⟩)
 · rw [Int.sign_eq_one_of_pos a,b];exact Or.inr (Or.inr ⟨by have:=pos a hy;omega,by decide⟩)
 · rw [Int.sign_eq_one_of_pos a,Int.sign_eq_one_of_pos b] at h;exact absurd rfl h
theorem cmp_same {cm:Int} (h:rsign x=rsign y) (hc:CmpIs cm (x.num.natAbs*y.den) (y.num.natAbs*x.den)):IntKind.i64.wrap (rsign x*(if (-1:Int)<(if cm<1 then cm else 1) then (if cm<1 then cm else 1) else -1))=rcmpI x y:=by
 have hm:(if (-1:Int)<(if cm<1 then cm else 1) then (if cm<1 then cm else 1) else -1)=(if cm<0 then -1 else if cm=0 then 0 else 1):=by
  split<;>split<;>split<;>omega
 rw [hm];obtain ⟨c1,c2⟩:=hc;have ex:(x.num.natAbs*y.den:Nat)=(x.num*y.den).natAbs:=by rw [Int.natAbs_mul];rfl
 have ey:(y.num.natAbs*x.den:Nat)=(y.num*x.den).natAbs:=by rw [Int.natAbs_mul];rfl
 rw [ex,ey] at c1 c2;have hx:(0:Int)<x.den:=by have:=x.den_pos;omega
 have hy:(0:Int)<y.den:=by have:=y.den_pos;omega
 have pos:∀ {a b:Int},0<a→0<b→0<a*b:=fun h1 h2=>Int.mul_pos h1 h2;have neg:∀ {a b:Int},a<0→0<b→a*b<0:=fun h1 h2=>Int.mul_neg_of_neg_of_pos h1 h2;refine zNF ?_;unfold rsign at h ⊢;rcases Int.lt_trichotomy x.num 0 with a | a | a
 · rw [Int.sign_eq_neg_one_of_neg a] at h ⊢;have b:y.num<0:=Int.sign_eq_neg_one_iff_neg.1 h.symm;have k1:=neg a hy;have k2:=neg b hx;by_cases e1:cm<0
   · rw [if_pos e1];have:=c1.1 e1;exact Or.inr (Or.inr ⟨by omega,by decide⟩)
   · rw [if_neg e1];by_cases e2:cm=0
     · rw [if_pos e2];have:=c2.1 e2;exact Or.inr (Or.inl ⟨by omega,by decide⟩)
     · rw [if_neg e2];exact Or.inl ⟨by have h3:¬ (x.num * ↑y.den).natAbs<(y.num * ↑x.den).natAbs:=fun e=>e1 (c1.2 e);have h4:¬ (x.num * ↑y.den).natAbs=(y.num * ↑x.den).natAbs:=fun e=>e2 (c2.2 e);omega,by decide⟩
 · rw [a] at h ⊢;have b:y.num=0:=Int.sign_eq_zero_iff_zero.1 h.symm;rw [b];exact Or.inr (Or.inl ⟨by simp,by rw [Int.sign_zero,Int.zero_mul];rfl⟩)
 · rw [Int.sign_eq_one_of_pos a] at h ⊢;have b:0<y.num:=Int.sign_eq_one_iff_pos.1 h.symm;have k1:=pos a hy;have k2:=pos b hx;by_cases e1:cm<0
   · rw [if_pos e1];have:=c1.1 e1;exact Or.inl ⟨by omega,by decide⟩
   · rw [if_neg e1];by_cases e2:cm=0
     · rw [if_pos e2];have:=c2.1 e2;exact Or.inr (Or.inl ⟨by omega,by decide⟩)
     · rw [if_neg e2];exact Or.inr (Or.inr ⟨by have h3:¬ (x.num * ↑y.den).natAbs<(y.num * ↑x.den).natAbs:=fun e=>e1 (c1.2 e);have h4:¬ (x.num * ↑y.den).natAbs=(y.num * ↑x.den).natAbs:=fun e=>e2 (c2.2 e);omega,by decide⟩)
theorem zJg (hx:IsNum w u x) (hy:IsNum w v y) (hr:rroom x y=true):Ret prog 146 #[u,v] w (fun r w'=>IsNum w' r (x+y)):=by
 have hf:=zHC hr;obtain ⟨p1,l1,k1,p2,l2,k2,rfl,hz1,hz2,hxn,hxd,hb1,hb2⟩:=hx.formF hf.xn hf.xd;obtain ⟨p3,l3,k3,p4,l4,k4,rfl,hz3,hz4,hyn,hyd,hb3,hb4⟩:=hy.formF hf.yn hf.yd;have E0:Ext w w:=Ext.refl w;refine J0 66 func146 rfl (rj fun K => ?_);refine K1 (zAA fun b1 w1 hb hE hB1 hs => ?_);have hgb1:w.heap.size≤b1:=by rw [hb];exact E0.size
 replace E0:=E0.trans hE;replace hx:=hx.ext hE;replace hy:=hy.ext hE;replace hxn:=hxn.ext hE;replace hyn:=hyn.ext hE;clear hE hs hb;refine K1 (zAA fun b2 w2 hb hE hB2 hs => ?_);have hgb2:w.heap.size≤b2:=by rw [hb];exact E0.size
 have ne_b1_b2:b1≠b2:=by have:=hB1.lt;omega
 replace E0:=E0.trans hE;replace hx:=hx.ext hE;replace hy:=hy.ext hE;replace hxn:=hxn.ext hE;replace hyn:=hyn.ext hE;replace hB1:=hB1.ext hE;clear hE hs hb;refine K1 (zd zAa fun b3 w3 hb hE hB3 hs => ?_);have hgb3:w.heap.size≤b3:=by rw [hb];exact E0.size
 have ne_b1_b3:b1≠b3:=by have:=hB1.lt;omega
 have ne_b2_b3:b2≠b3:=by have:=hB2.lt;omega
 replace E0:=E0.trans hE;replace hx:=hx.ext hE;replace hy:=hy.ext hE;replace hxn:=hxn.ext hE;replace hyn:=hyn.ext hE;replace hB1:=hB1.ext hE;replace hB2:=hB2.ext hE;clear hE hs hb;refine rm [2,3,4] K ?_;refine zA (zAY [([(2,none)],none),([(8,some 0)],none),([(3,none)],none),([(10,some 0)],none),([],none),([(9,some 3)],none),([(11,some 2)],none),([(12,some 2)],none)] mixed (by kernel_rfl) (by kernel_rfl) (by kernel_rfl) fun K hK=>dvp (fun σ wx hE hk=>zJ zCS hk.1 ⟨Ext.refl _,rfl⟩) (dvp (fun σ wx hE hk=>zI zAn hk.1 (hB1.ext hE) rfl ⟨Ext.refl _,rfl⟩) (dvp (fun σ wx hE hk=>zJ zCS hk.1 ⟨Ext.refl _,rfl⟩) (dvp (fun σ wx hE hk=>zI zAn hk.1 (hB2.ext hE) rfl ⟨Ext.refl _,rfl⟩) (dcp (fun v w'=>IsW w' v (1)) (fun _ _ _ _ hx h=>h.ext hx.toExt) (fun σ wx hE hk=>zH hb106 (CallK.of_ret (zFy _) fun v w2 hX hr=>⟨hX,hr⟩) rfl) (dvp (fun σ wx hE hk=>zZ ⟨Ext.refl _,hk.1⟩) (dvp (fun σ wx hE hk=>zZ ⟨Ext.refl _,hk.1⟩) (dcp (fun v w'=>IsW w' v (1)) (fun _ _ _ _ hx h=>h.ext hx.toExt) (fun σ wx hE hk=>zZ ⟨Ext.refl _,hk.1⟩) (zBW (hK _ fun wq hE => ?_))))))))));rintro _ rfl _ rfl _ rfl _ rfl v12 N12 _ rfl _ rfl v7 N7;refine zn ?_;replace E0:=E0.trans hE
 replace hx:=hx.ext hE;replace hy:=hy.ext hE;replace hxn:=hxn.ext hE;replace hyn:=hyn.ext hE;replace hB1:=hB1.ext hE;replace hB2:=hB2.ext hE;replace hB3:=hB3.ext hE;clear hE;refine zN (K5 [2,3,4,5,6,7] ?_);refine zBO (fun ρ w'=>∃ v5 v6 v7,Keep ρ [(2,.pointer (some ⟨b1,0,none⟩)),(3,.pointer (some ⟨b2,0,none⟩)),(4,.pointer (some ⟨b3,0,none⟩)),(5,v5),(6,v6),(7,v7)]∧Ext w w'∧IsW w' v5 (x.num.natAbs*y.den)∧IsW w' v6 (y.num.natAbs*x.den)∧IsW w' v7 (x.den*y.den)∧Blk w' b1 37 [Value.bool (decide (x<0)),Value.slice p1 l1 k1,Value.slice p2 l2 k2]∧Blk w' b2 37 [Value.bool (decide (y<0)),Value.slice p3 l3 k3,Value.slice p4 l4 k4]∧Blk w' b3 37 [Value.bool false,Value.slice none 0 0,Value.slice none 0 0]) ?_ ?_
 · refine rj fun K=>K1 (zJ zGS rfl (K1 (zI zAn rfl hB1 rfl (K1 (zG zX rfl (K1 (zJ zGS rfl (K1 (zI zAn rfl hB2 rfl (K1 (zG zX rfl (K1 (za (l2+l4) rfl rfl rfl (by omega) (K8 rfl (rm [2,3,4,5,6,7,20] K ?_)))))))))))))));refine K0 rfl ?_ ?_<;>intro hc
   · clear hc
     refine zAY [([(5,none)],none),([(3,none)],none),([(22,some 0)],none),([(21,some 2),(23,some 0)],none),([(6,none)],none),([(2,none)],none),([(26,some 0)],none),([(25,some 2),(27,some 0)],none),([(2,none)],none),([(29,some 0)],none),([(3,none)],none),([(31,some 0)],none),([(30,some 2),(32,some 0)],none),([(24,some 9)],none),([(28,some 6)],none),([(33,some 2)],none)] mixed (by kernel_rfl) (by kernel_rfl) (by kernel_rfl) fun K hK=>dvp (fun σ wx hE hk=>zC ⟨Ext.refl _,hk.1⟩) (dvp (fun σ wx hE hk=>zp zz hk.1 (hB2.ext hE) (Nat.le_of_ble_eq_true rfl) ⟨Ext.refl _,rfl⟩) (dcp (fun v w'=>IsW w' v (y.den)) (fun _ _ _ _ hx h=>h.ext hx.toExt) (fun σ wx hE hk=>zH hb104 (CallK.of_ret (zCJ (IsNum.of_eq hk.1 (hy.ext hE))) fun v w2 hX hr=>⟨hX,hr⟩) rfl) (dcp (fun v w'=>IsW w' v (x.num.natAbs*y.den)) (fun _ _ _ _ hx h=>h.ext hx.toExt) (fun σ wx hE hk=>zH hb103 (CallK.of_ret (zEU (IsW.of_eq hk.1 (hxn.ext hE)) hk.2.1 hf.xn hf.yd) fun v w2 hX hr=>⟨hX,hr⟩) rfl) (dvp (fun σ wx hE hk=>zC ⟨Ext.refl _,hk.1⟩) (dvp (fun σ wx hE hk=>zp zz hk.1 (hB1.ext hE) (Nat.le_of_ble_eq_true rfl) ⟨Ext.refl _,rfl⟩) (dcp (fun v w'=>IsW w' v (x.den)) (fun _ _ _ _ hx h=>h.ext hx.toExt) (fun σ wx hE hk=>zH hb104 (CallK.of_ret (zCJ (IsNum.of_eq hk.1 (hx.ext hE))) fun v w2 hX hr=>⟨hX,hr⟩) rfl) (dcp (fun v w'=>IsW w' v (y.num.natAbs*x.den)) (fun _ _ _ _ hx h=>h.ext hx.toExt) (fun σ wx hE hk=>zH hb103 (CallK.of_ret (zEU (IsW.of_eq hk.1 (hyn.ext hE)) hk.2.1 hf.yn hf.xd) fun v w2 hX hr=>⟨hX,hr⟩) rfl) (dvp (fun σ wx hE hk=>zp zz hk.1 (hB1.ext hE) (Nat.le_of_ble_eq_true rfl) ⟨Ext.refl _,rfl⟩) (dcp (fun v w'=>IsW w' v (x.den)) (fun _ _ _ _ hx h=>h.ext hx.toExt) (fun σ wx hE hk=>zH hb104 (CallK.of_ret (zCJ (IsNum.of_eq hk.1 (hx.ext hE))) fun v w2 hX hr=>⟨hX,hr⟩) rfl) (dvp (fun σ wx hE hk=>zp zz hk.1 (hB2.ext hE) (Nat.le_of_ble_eq_true rfl) ⟨Ext.refl _,rfl⟩) (dcp (fun v w'=>IsW w' v (y.den)) (fun _ _ _ _ hx h=>h.ext hx.toExt) (fun σ wx hE hk=>zH hb104 (CallK.of_ret (zCJ (IsNum.of_eq hk.1 (hy.ext hE))) fun v w2 hX hr=>⟨hX,hr⟩) rfl) (dcp (fun v w'=>IsW w' v (x.den*y.den)) (fun _ _ _ _ hx h=>h.ext hx.toExt) (fun σ wx hE hk=>zH hb103 (CallK.of_ret (zEU hk.1 hk.2.1 hf.xd hf.yd) fun v w2 hX hr=>⟨hX,hr⟩) rfl) (dcp (fun v w'=>IsW w' v (x.num.natAbs*y.den)) (fun _ _ _ _ hx h=>h.ext hx.toExt) (fun σ wx hE hk=>zZ ⟨Ext.refl _,hk.1⟩) ?_)))))))))))))
     refine dcp (fun v w'=>IsW w' v (y.num.natAbs*x.den)) (fun _ _ _ _ hx h=>h.ext hx.toExt) (fun σ wx hE hk=>zZ ⟨Ext.refl _,hk.1⟩) (dcp (fun v w'=>IsW w' v (x.den*y.den)) (fun _ _ _ _ hx h=>h.ext hx.toExt) (fun σ wx hE hk=>zZ ⟨Ext.refl _,hk.1⟩) (zBW (hK _ fun wq hE => ?_)));rintro _ rfl _ rfl v23 N23 v24 N24 _ rfl _ rfl v27 N27 v28 N28 _ rfl v30 N30 _ rfl v32 N32 v33 N33 v5 N5 v6 N6 v7 N7;refine zn ?_;replace E0:=E0.trans hE;replace hx:=hx.ext hE;replace hy:=hy.ext hE;replace hxn:=hxn.ext hE;replace hyn:=hyn.ext hE;replace hB1:=hB1.ext hE;replace hB2:=hB2.ext hE;replace hB3:=hB3.ext hE;replace N12:=N12.ext hE;clear hE;exact zP ⟨rfl,_,_,_,(kp rfl),E0,N5,N6,N7,hB1,hB2,hB3⟩
   · have hd0:l2+l4=0:=by have:=of_decide_eq_false hc;omega
     clear hc;have hd1:x.den=1:=hz2.1 (by omega);have hd2:y.den=1:=hz4.1 (by omega);refine zm (zP ?_);exact ⟨rfl,_,_,_,(kp rfl),E0,by rw [hd2,Nat.mul_one];exact hxn,by rw [hd1,Nat.mul_one];exact hyn,by rw [hd1,hd2];exact N7,hB1,hB2,hB3⟩
 · clear E0 hxn hyn hB1 hB2 hB3;rintro ρ2 w2 ⟨v5,v6,v7,hk,E0,h5,h6,h7,hB1,hB2,hB3⟩;refine wpe_k _ hk ?_;clear hk ρ2;refine zA (zD (rj fun K=>K1 (zJ zDM rfl (K1 (zI zCj rfl hB1 rfl (K1 (zJ zDM rfl (K1 (zI zCj rfl hB2 rfl (K1 (zLW zON rfl rfl (ag (rm [2,3,4,5,6,7,34] K ?_)))))))))))));refine K0 rfl ?_ ?_<;>intro hc
   · have he:decide (x<0)=decide (y<0):=eq_of_beq hc;clear hc;refine zA ?_;have hnw:NoW [b3] _:=noW1 hB3 (by decide);refine zCt [⟨7,b3,Cell3 b3,NumAt b3 (x+y)⟩] [([(2,none)],none),([(40,some 0)],none),([(5,none)],none),([(6,none)],none),([(42,some 1),(43,some 0)],none),([(7,none)],none),([(41,some 4),(44,some 1),(45,some 0)],none),([(4,none),(46,some 0)],none)] mixed (by kernel_rfl) (by kernel_rfl) (by kernel_rfl) (by simp) (by kernel_rfl) (all1 (zGF hB3 rfl)) fun K hK=>dsv rfl (fun σ wx hE hk=>zJ zDM hk.1 ⟨Ext.refl _,rfl⟩) (dsv rfl (fun σ wx hE hk=>zI zCj hk.1 (hB1.extS hE (nin1 ne_b1_b3)) rfl ⟨Ext.refl _,rfl⟩) (dsv rfl (fun σ wx hE hk=>zC ⟨Ext.refl _,hk.1⟩) (dsv rfl (fun σ wx hE hk=>zC ⟨Ext.refl _,hk.1⟩) (dsn (fun v w'=>IsW w' v (x.num.natAbs*y.den+y.num.natAbs*x.den)) rfl (fun _ _ _ h1 hx h=>h.extS hx (hnw.ext h1)) (fun σ wx hE hk=>zH hb234 (CallK.of_ret (zOd (IsW.of_eq hk.1 (h5.extS hE hnw)) (IsW.of_eq hk.2.1 (h6.extS hE hnw)) hf.nd hf.nd') fun v w2 hX hr=>⟨hX,hr⟩) rfl) (dsv rfl (fun σ wx hE hk=>zC ⟨Ext.refl _,hk.1⟩) ?_)))))
     refine dsn (fun v w'=>IsNum w' v (x+y)) rfl (fun _ _ _ h1 hx h=>h.extS hx (hnw.ext h1)) (fun σ wx hE hk=>zH hb102 (CallK.eq3 hk.1 rfl rfl (CallK.of_ret (zBY hk.2.1 (IsW.of_eq hk.2.2.1 (h7.extS hE hnw)) (Nat.mul_ne_zero x.den_nz y.den_nz) hf.add hf.dd) fun v w2 hX hr=>⟨hX,by rw [q_add_same x y he];exact hr⟩)) rfl) ?_;refine dss _ rfl (fun σ wx hE hpre hk=>zAy hk.1 hk.2.1 hpre) (zIB (hK _ fun wq hS hP => ?_));rintro _ rfl _ rfl _ rfl _ rfl v44 N44 _ rfl v46 N46 _ _;refine zn ?_;obtain ⟨⟨cs,hB4,hl4,hN4⟩,-⟩:=hP;replace E0:=E0.updS hS hgb3;refine zN (K5 [2,3,4] ?_);exact zB (zT (zU (zQ ⟨rfl,_,zAD rfl rfl rfl zz hB4 hl4,E0,hN4⟩)))
   · have he:decide (x<0)≠decide (y<0):=beq_eq_false_iff_ne.1 hc;clear hc;refine rJ fun K=>mv (K1 (j6 E0 h5.ext h6.ext h7.ext hB1.ext hB2.ext hB3.ext hb174 (zPE h5 h6 hf.nd hf.nd') fun v6_2 w4 E0 h5 h6 h7 hB1 hB2 hB3 hr => ?_));obtain ⟨cm,rfl,hcm⟩:=hr;refine K8 rfl (ag (rm [2,3,4,5,6,7,47] K ?_));refine K0 rfl ?_ ?_<;>intro hc
     · have hlt:x.num.natAbs*y.den<y.num.natAbs*x.den:=hcm.1.1 (of_decide_eq_true hc);clear hc;refine zA ?_;have hnw:NoW [b3] _:=noW1 hB3 (by decide);refine zCt [⟨7,b3,Cell3 b3,NumAt b3 (x+y)⟩] [([(3,none)],none),([(52,some 0)],none),([(6,none)],none),([(5,none)],none),([(54,some 1),(55,some 0)],none),([(7,none)],none),([(53,some 4),(56,some 1),(57,some 0)],none),([(4,none),(58,some 0)],none)] mixed (by kernel_rfl) (by kernel_rfl) (by kernel_rfl) (by simp) (by kernel_rfl) (all1 (zGF hB3 rfl)) fun K hK=>dsv rfl (fun σ wx hE hk=>zJ zDM hk.1 ⟨Ext.refl _,rfl⟩) (dsv rfl (fun σ wx hE hk=>zI zCj hk.1 (hB2.extS hE (nin1 ne_b2_b3)) rfl ⟨Ext.refl _,rfl⟩) (dsv rfl (fun σ wx hE hk=>zC ⟨Ext.refl _,hk.1⟩) (dsv rfl (fun σ wx hE hk=>zC ⟨Ext.refl _,hk.1⟩) (dsn (fun v w'=>IsW w' v (y.num.natAbs*x.den-x.num.natAbs*y.den)) rfl (fun _ _ _ h1 hx h=>h.extS hx (hnw.ext h1)) (fun σ wx hE hk=>zH hb235 (CallK.of_ret (zPZ (IsW.of_eq hk.1 (h6.extS hE hnw)) (IsW.of_eq hk.2.1 (h5.extS hE hnw)) hf.nd' (Nat.le_of_lt hlt)) fun v w2 hX hr=>⟨hX,hr⟩) rfl) (dsv rfl (fun σ wx hE hk=>zC ⟨Ext.refl _,hk.1⟩) ?_)))))
       refine dsn (fun v w'=>IsNum w' v (x+y)) rfl (fun _ _ _ h1 hx h=>h.extS hx (hnw.ext h1)) (fun σ wx hE hk=>zH hb102 (CallK.eq3 hk.1 rfl rfl (CallK.of_ret (zBY hk.2.1 (IsW.of_eq hk.2.2.1 (h7.extS hE hnw)) (Nat.mul_ne_zero x.den_nz y.den_nz) (hf.nd'.le (Nat.sub_le _ _)) hf.dd) fun v w2 hX hr=>⟨hX,by rw [zJn x y he (Nat.le_of_lt hlt)];exact hr⟩)) rfl) ?_;refine dss _ rfl (fun σ wx hE hpre hk=>zAy hk.1 hk.2.1 hpre) (zIB (hK _ fun wq hS hP => ?_));rintro _ rfl _ rfl _ rfl _ rfl v56 N56 _ rfl v58 N58 _ _;refine zn ?_;obtain ⟨⟨cs,hB4,hl4,hN4⟩,-⟩:=hP;replace E0:=E0.updS hS hgb3;refine zN (K5 [2,3,4] ?_);exact zB (zT (zU (zQ ⟨rfl,_,zAD rfl rfl rfl zz hB4 hl4,E0,hN4⟩)))
     · have hge:y.num.natAbs*x.den≤x.num.natAbs*y.den:=Nat.le_of_not_lt fun e=>of_decide_eq_false hc (hcm.1.2 e);clear hc;refine zm (zS (zN (zA ?_)));have hnw:NoW [b3] _:=noW1 hB3 (by decide);refine zCt [⟨7,b3,Cell3 b3,NumAt b3 (x+y)⟩] [([(2,none)],none),([(59,some 0)],none),([(5,none)],none),([(6,none)],none),([(61,some 1),(62,some 0)],none),([(7,none)],none),([(60,some 4),(63,some 1),(64,some 0)],none),([(4,none),(65,some 0)],none)] mixed (by kernel_rfl) (by kernel_rfl) (by kernel_rfl) (by simp) (by kernel_rfl) (all1 (zGF hB3 rfl)) fun K hK=>dsv rfl (fun σ wx hE hk=>zJ zDM hk.1 ⟨Ext.refl _,rfl⟩) (dsv rfl (fun σ wx hE hk=>zI zCj hk.1 (hB1.extS hE (nin1 ne_b1_b3)) rfl ⟨Ext.refl _,rfl⟩) (dsv rfl (fun σ wx hE hk=>zC ⟨Ext.refl _,hk.1⟩) (dsv rfl (fun σ wx hE hk=>zC ⟨Ext.refl _,hk.1⟩) (dsn (fun v w'=>IsW w' v (x.num.natAbs*y.den-y.num.natAbs*x.den)) rfl (fun _ _ _ h1 hx h=>h.extS hx (hnw.ext h1)) (fun σ wx hE hk=>zH hb235 (CallK.of_ret (zPZ (IsW.of_eq hk.1 (h5.extS hE hnw)) (IsW.of_eq hk.2.1 (h6.extS hE hnw)) hf.nd hge) fun v w2 hX hr=>⟨hX,hr⟩) rfl) (dsv rfl (fun σ wx hE hk=>zC ⟨Ext.refl _,hk.1⟩) ?_)))))
       refine dsn (fun v w'=>IsNum w' v (x+y)) rfl (fun _ _ _ h1 hx h=>h.extS hx (hnw.ext h1)) (fun σ wx hE hk=>zH hb102 (CallK.eq3 hk.1 rfl rfl (CallK.of_ret (zBY hk.2.1 (IsW.of_eq hk.2.2.1 (h7.extS hE hnw)) (Nat.mul_ne_zero x.den_nz y.den_nz) (hf.nd.le (Nat.sub_le _ _)) hf.dd) fun v w2 hX hr=>⟨hX,by rw [q_add_more x y he hge];exact hr⟩)) rfl) ?_;refine dss _ rfl (fun σ wx hE hpre hk=>zAy hk.1 hk.2.1 hpre) (zIB (hK _ fun wq hS hP => ?_));rintro _ rfl _ rfl _ rfl _ rfl v63 N63 _ rfl v65 N65 _ _;refine zn ?_;obtain ⟨⟨cs,hB4,hl4,hN4⟩,-⟩:=hP;replace E0:=E0.updS hS hgb3;refine zN (K5 [2,3,4] ?_);exact zB (zQ ⟨rfl,_,zAD rfl rfl rfl zz hB4 hl4,E0,hN4⟩)
theorem room_neg (x y:Rat):rroom x (-y)=rroom x y:=by
 unfold rroom sz;rw [Rat.neg_num,Int.natAbs_neg,Rat.neg_den]
theorem zPk (hx:IsNum w u x) (hy:IsNum w v y) (hr:rroom x y=true):Ret prog 237 #[u,v] w (fun r w'=>IsNum w' r (x-y)):=by
 have hx0:=hx;have hy0:=hy;obtain ⟨xn,xd,rfl,hxn,hxd⟩:=hx0;obtain ⟨yn,yd,rfl,hyn,hyd⟩:=hy0;refine J0 9 func237 rfl (rj fun K => ?_);refine K1 (zAA fun b1 w1 hb hE hB1 hs => ?_);have hgb1:w.heap.size≤b1:=by rw [hb];exact E0.size
 replace E0:=E0.trans hE;replace hx:=hx.ext hE;replace hy:=hy.ext hE;clear hE hs hb;refine K1 (zAA fun b2 w2 hb hE hB2 hs => ?_);have hgb2:w.heap.size≤b2:=by rw [hb];exact E0.size
 have ne_b1_b2:b1≠b2:=by have:=hB1.lt;omega
 replace E0:=E0.trans hE;replace hx:=hx.ext hE;replace hy:=hy.ext hE;replace hB1:=hB1.ext hE;clear hE hs hb;refine K1 (zd zAa fun b3 w3 hb hE hB3 hs => ?_);have hgb3:w.heap.size≤b3:=by rw [hb];exact E0.size
 have ne_b1_b3:b1≠b3:=by have:=hB1.lt;omega
 have ne_b2_b3:b2≠b3:=by have:=hB2.lt;omega
 replace E0:=E0.trans hE;replace hx:=hx.ext hE;replace hy:=hy.ext hE;replace hB1:=hB1.ext hE;replace hB2:=hB2.ext hE;clear hE hs hb;refine rm [2,3,4] K ?_;refine zA ?_;have hnw:NoW [b3] _:=noW1 hB3 (by decide);refine zCt [⟨4,b3,Cell3 b3,NumAt b3 (x-y)⟩] [([(2,none)],none),([(3,none)],none),([(6,some 0)],none),([(5,some 2),(7,some 0)],none),([(4,none),(8,some 0)],none)] mixed (by kernel_rfl) (by kernel_rfl) (by kernel_rfl) (by simp) (by kernel_rfl) (all1 (zGF hB3 rfl)) fun K hK=>dsv rfl (fun σ wx hE hk=>zp zz hk.1 (hB1.extS hE (nin1 ne_b1_b3)) (Nat.le_of_ble_eq_true rfl) ⟨Ext.refl _,rfl⟩) (dsv rfl (fun σ wx hE hk=>zp zz hk.1 (hB2.extS hE (nin1 ne_b2_b3)) (Nat.le_of_ble_eq_true rfl) ⟨Ext.refl _,rfl⟩) (dsn (fun v w'=>IsNum w' v (-y)) rfl (fun _ _ _ h1 hx h=>h.extS hx (hnw.ext h1)) (fun σ wx hE hk=>zH hb132 (CallK.of_ret (zNn (IsNum.of_eq hk.1 (hy.extS hE hnw))) fun v w2 hX hr=>⟨hX,hr⟩) rfl) ?_));refine dsn (fun v w'=>IsNum w' v (x-y)) rfl (fun _ _ _ h1 hx h=>h.extS hx (hnw.ext h1)) (fun σ wx hE hk=>zH hb146 (CallK.of_ret (zJg (IsNum.of_eq hk.1 (hx.extS hE hnw)) hk.2.1 (by rw [room_neg];exact hr)) fun v w2 hX hr=>⟨hX,by rw [Rat.sub_eq_add_neg];exact hr⟩) rfl) ?_;refine dss _ rfl (fun σ wx hE hpre hk=>zAy hk.1 hk.2.1 hpre) (zIB (hK _ fun wq hS hP => ?_));rintro _ rfl _ rfl v7 N7 v8 N8 _ _;refine zn ?_
 obtain ⟨⟨cs,hB4,hl4,hN4⟩,-⟩:=hP;replace E0:=E0.updS hS hgb3;refine zN (K5 [4] ?_);exact zB (zQ ⟨rfl,_,zAD rfl rfl rfl zz hB4 hl4,E0,hN4⟩)
theorem zPj (hx:IsNum w u x) (hy:IsNum w v y) (hr:rroom x y=true):Ret prog 37 #[u,v] w (fun r w'=>∃ q,r = .tuple #[q,.int .i64 (if y=0 then 8 else 0)]∧IsNum w' q (x/y)):=by
 have hf:=zHC hr;obtain ⟨p1,l1,k1,p2,l2,k2,rfl,hz1,hz2,hxn,hxd,hb1,hb2⟩:=hx.formF hf.xn hf.xd;obtain ⟨p3,l3,k3,p4,l4,k4,rfl,hz3,hz4,hyn,hyd,hb3,hb4⟩:=hy.formF hf.yn hf.yd;refine J0 27 func37 rfl (rj fun K => ?_);refine K1 (zAA fun b1 w1 hb hE hB1 hs => ?_);have hgb1:w.heap.size≤b1:=by rw [hb];exact E0.size
 replace E0:=E0.trans hE;replace hx:=hx.ext hE;replace hy:=hy.ext hE;replace hxn:=hxn.ext hE;replace hyn:=hyn.ext hE;clear hE hs hb;refine K1 (zAA fun b2 w2 hb hE hB2 hs => ?_);have hgb2:w.heap.size≤b2:=by rw [hb];exact E0.size
 have ne_b1_b2:b1≠b2:=by have:=hB1.lt;omega
 replace E0:=E0.trans hE;replace hx:=hx.ext hE;replace hy:=hy.ext hE;replace hxn:=hxn.ext hE;replace hyn:=hyn.ext hE;replace hB1:=hB1.ext hE;clear hE hs hb;refine K1 (zd zAa fun b3 w3 hb hE hB3 hs => ?_);have hgb3:w.heap.size≤b3:=by rw [hb];exact E0.size
 have ne_b1_b3:b1≠b3:=by have:=hB1.lt;omega
 have ne_b2_b3:b2≠b3:=by have:=hB2.lt;omega
 replace E0:=E0.trans hE;replace hx:=hx.ext hE;replace hy:=hy.ext hE;replace hxn:=hxn.ext hE;replace hyn:=hyn.ext hE;replace hB1:=hB1.ext hE;replace hB2:=hB2.ext hE;clear hE hs hb;refine ag (rm [2,3,4] K ?_);refine zA (zA ?_);rcases (show y=0∨y≠0 from Classical.em _) with hy0 | hy0
 · obtain rfl:=hz3.2 hy0;refine K6 fun K=>K1 (zJ zCS rfl (K1 (zI zAn rfl hB2 rfl (K1 (zG zX rfl (K8 rfl (rs [2,3,4,9] K ?_)))))));refine wct rfl (rj fun K=>K1 (zf (cs := #[.bool false,.slice none 0 0,.slice none 0 0]) (by kernel_rfl) (K1 (zK rfl IsNum.zero (Cell3.of hB3 rfl) fun _ w9 hU hN => ?_))));replace E0:=E0.upd hU hgb3;obtain ⟨cs,hB4,hl4,hN4⟩:=hN;refine ag (rm [4,5] K ?_);refine zB (zU (zQ ?_));exact ⟨rfl,_,zh rfl rfl rfl rfl zz hB4 hl4,E0,_,by rw [if_pos hy0];rfl,by rw [hy0,Rat.div_def,Rat.inv_zero,Rat.mul_zero];exact hN4⟩
 · have hl:l3≠0:=fun e=>hy0 (hz3.1 e);refine K6 fun K=>K1 (zJ zCS rfl (K1 (zI zAn rfl hB2 rfl (K1 (zG zX rfl (K8 rfl (rs [2,3,4,9] K ?_)))))));refine wcf (congrArg Value.bool (beq_eq_false_iff_ne.2 (by omega))) (sk (zA ?_));have hnw:NoW [b3] _:=noW1 hB3 (by decide)
   refine zCt [⟨16,b3,Cell3 b3,NumAt b3 (x/y)⟩] [([(2,none)],none),([(11,some 0)],none),([(3,none)],none),([(13,some 0)],none),([(12,some 2),(14,some 0)],none),([(2,none)],none),([(16,some 0)],none),([(3,none)],none),([(18,some 0)],none),([(17,some 2),(19,some 0)],none),([(2,none)],none),([(21,some 0)],none),([(3,none)],none),([(23,some 0)],none),([(22,some 2),(24,some 0)],none),([(15,some 10),(20,some 5),(25,some 0)],none),([(4,none),(26,some 0)],none),([],none)] mixed (by kernel_rfl) (by kernel_rfl) (by kernel_rfl) (by simp) (by kernel_rfl) (all1 (zGF hB3 rfl)) fun K hK=>dsv rfl (fun σ wx hE hk=>zJ zDM hk.1 ⟨Ext.refl _,rfl⟩) (dsv rfl (fun σ wx hE hk=>zI zCj hk.1 (hB1.extS hE (nin1 ne_b1_b3)) rfl ⟨Ext.refl _,rfl⟩) (dsv rfl (fun σ wx hE hk=>zJ zDM hk.1 ⟨Ext.refl _,rfl⟩) (dsv rfl (fun σ wx hE hk=>zI zCj hk.1 (hB2.extS hE (nin1 ne_b2_b3)) rfl ⟨Ext.refl _,rfl⟩) (dsv rfl (fun σ wx hE hk=>zMF zON hk.1 hk.2.1 ⟨Ext.refl _,rfl⟩) (dsv rfl (fun σ wx hE hk=>zJ zCS hk.1 ⟨Ext.refl _,rfl⟩) (dsv rfl (fun σ wx hE hk=>zI zAn hk.1 (hB1.extS hE (nin1 ne_b1_b3)) rfl ⟨Ext.refl _,rfl⟩) (dsv rfl (fun σ wx hE hk=>zp zz hk.1 (hB2.extS hE (nin1 ne_b2_b3)) (Nat.le_of_ble_eq_true rfl) ⟨Ext.refl _,rfl⟩) (dsn (fun v w'=>IsW w' v (y.den)) rfl (fun _ _ _ h1 hx h=>h.extS hx (hnw.ext h1)) (fun σ wx hE hk=>zH hb104 (CallK.of_ret (zCJ (IsNum.of_eq hk.1 (hy.extS hE hnw))) fun v w2 hX hr=>⟨hX,hr⟩) rfl) (dsn (fun v w'=>IsW w' v (x.num.natAbs*y.den)) rfl (fun _ _ _ h1 hx h=>h.extS hx (hnw.ext h1)) (fun σ wx hE hk=>zH hb103 (CallK.of_ret (zEU (IsW.of_eq hk.1 (hxn.extS hE hnw)) hk.2.1 hf.xn hf.yd) fun v w2 hX hr=>⟨hX,hr⟩) rfl) (dsv rfl (fun σ wx hE hk=>zp zz hk.1 (hB1.extS hE (nin1 ne_b1_b3)) (Nat.le_of_ble_eq_true rfl) ⟨Ext.refl _,rfl⟩) (dsn (fun v w'=>IsW w' v (x.den)) rfl (fun _ _ _ h1 hx h=>h.extS hx (hnw.ext h1)) (fun σ wx hE hk=>zH hb104 (CallK.of_ret (zCJ (IsNum.of_eq hk.1 (hx.extS hE hnw))) fun v w2 hX hr=>⟨hX,hr⟩) rfl) (dsv rfl (fun σ wx hE hk=>zJ zCS hk.1 ⟨Ext.refl _,rfl⟩) (dsv rfl (fun σ wx hE hk=>zI zAn hk.1 (hB2.extS hE (nin1 ne_b2_b3)) rfl ⟨Ext.refl _,rfl⟩) ?_)))))))))))))
   refine dsn (fun v w'=>IsW w' v (x.den*y.num.natAbs)) rfl (fun _ _ _ h1 hx h=>h.extS hx (hnw.ext h1)) (fun σ wx hE hk=>zH hb103 (CallK.of_ret (zEU hk.1 (IsW.of_eq hk.2.1 (hyn.extS hE hnw)) hf.xd hf.yn) fun v w2 hX hr=>⟨hX,hr⟩) rfl) ?_;refine dsn (fun v w'=>IsNum w' v (x/y)) rfl (fun _ _ _ h1 hx h=>h.extS hx (hnw.ext h1)) (fun σ wx hE hk=>zH hb102 (CallK.eq3 hk.1 rfl rfl (CallK.of_ret (zBY hk.2.1 hk.2.2.1 (Nat.mul_ne_zero x.den_nz (fun e=>hy0 (Rat.num_eq_zero.1 (Int.natAbs_eq_zero.1 e)))) hf.nd hf.dn) fun v w2 hX hr=>⟨hX,by rw [q_div x y hy0];exact hr⟩)) rfl) ?_;refine dss _ rfl (fun σ wx hE hpre hk=>zAy hk.1 hk.2.1 hpre) (dsv rfl (fun σ wx hE hk=>zZ ⟨Ext.refl _,rfl⟩) (zIB (hK _ fun wq hS hP => ?_)));rintro _ rfl _ rfl _ rfl _ rfl _ rfl _ rfl _ rfl _ rfl v19 N19 v20 N20 _ rfl v22 N22 _ rfl _ rfl v25 N25 v26 N26 _ _ _ rfl;refine zn ?_;obtain ⟨⟨cs,hB4,hl4,hN4⟩,-⟩:=hP;replace E0:=E0.updS hS hgb3;refine zN (K5 [4,5] ?_);refine zB (zQ ?_);exact ⟨rfl,_,zh rfl rfl rfl rfl zz hB4 hl4,E0,_,by rw [if_neg hy0];rfl,hN4⟩
theorem zEH (hx:IsNum w u x) (hy:IsNum w v y) (hr:rroom x y=true):Ret prog 73 #[u,v] w (fun r _=>r = .int .i64 (rcmpI x y)):=by
 have hf:=zHC hr;obtain ⟨p1,l1,k1,p2,l2,k2,rfl,hz1,hz2,hxn,hxd,hb1,hb2⟩:=hx.formF hf.xn hf.xd;obtain ⟨p3,l3,k3,p4,l4,k4,rfl,hz3,hz4,hyn,hyd,hb3,hb4⟩:=hy.formF hf.yn hf.yd;refine J0 34 func73 rfl (rj fun K => ?_);refine K1 (zAA fun b1 w1 hb hE hB1 hs => ?_);have hgb1:w.heap.size≤b1:=by rw [hb];exact E0.size
 replace E0:=E0.trans hE;replace hx:=hx.ext hE;replace hy:=hy.ext hE;replace hxn:=hxn.ext hE;replace hyn:=hyn.ext hE;clear hE hs hb;refine K1 (zAA fun b2 w2 hb hE hB2 hs => ?_);have hgb2:w.heap.size≤b2:=by rw [hb];exact E0.size
 have ne_b1_b2:b1≠b2:=by have:=hB1.lt;omega
 replace E0:=E0.trans hE;replace hx:=hx.ext hE;replace hy:=hy.ext hE;replace hxn:=hxn.ext hE;replace hyn:=hyn.ext hE;replace hB1:=hB1.ext hE;clear hE hs hb;refine ag (rm [2,3] K ?_);refine zA (zAY [([(2,none)],none),([(7,some 0)],none),([(3,none)],none),([(9,some 0)],none),([(8,some 2)],none),([(10,some 1)],none)] mixed (by kernel_rfl) (by kernel_rfl) (by kernel_rfl) fun K hK=>dvp (fun σ wx hE hk=>zp zz hk.1 (hB1.ext hE) (Nat.le_of_ble_eq_true rfl) ⟨Ext.refl _,rfl⟩) (dvp (fun σ wx hE hk=>zH hb19 (CallK.of_ret (zAg (IsNum.of_eq hk.1 (hx.ext hE))) fun v w2 hX hr=>⟨hX,hr⟩) rfl) (dvp (fun σ wx hE hk=>zp zz hk.1 (hB2.ext hE) (Nat.le_of_ble_eq_true rfl) ⟨Ext.refl _,rfl⟩) (dvp (fun σ wx hE hk=>zH hb19 (CallK.of_ret (zAg (IsNum.of_eq hk.1 (hy.ext hE))) fun v w2 hX hr=>⟨hX,hr⟩) rfl) (dvp (fun σ wx hE hk=>zZ ⟨Ext.refl _,hk.1⟩) (dvp (fun σ wx hE hk=>zZ ⟨Ext.refl _,hk.1⟩) (zBW (hK _ fun wq hE => ?_))))))));rintro _ rfl _ rfl _ rfl _ rfl _ rfl _ rfl;refine zn ?_;replace E0:=E0.trans hE;replace hx:=hx.ext hE;replace hy:=hy.ext hE;replace hxn:=hxn.ext hE;replace hyn:=hyn.ext hE;replace hB1:=hB1.ext hE;replace hB2:=hB2.ext hE;clear hE;refine zN (K5 [2,3,5,6] ?_);refine zA (rJ fun K=>mv (K8 rfl (rm [2,3,5,6,13] K ?_)));refine K0 rfl ?_ ?_<;>intro hc
 · have hne:rsign x≠rsign y:=bne_iff_ne.1 hc;clear hc;refine rJ fun K=>mv (K8 rfl (K1 (zIC rfl rfl (K1 (zCG rfl rfl (ag (rm [4] K ?_)))))));exact zB (zU (en rfl E0 (congrArg (Value.int .i64) (cmp_signs hne))))
 · have heq:rsign x=rsign y:=bne_eq_false_iff_eq.1 hc;clear hc
   refine sk (zA (zAY [([(5,none)],none),([(2,none)],none),([(20,some 0)],none),([(3,none)],none),([(22,some 0)],none),([(21,some 2),(23,some 0)],none),([(3,none)],none),([(25,some 0)],none),([(2,none)],none),([(27,some 0)],none),([(26,some 2),(28,some 0)],none),([(24,some 5),(29,some 0)],none),([(30,some 0)],none),([(31,some 0)],none),([(19,some 13),(32,some 0)],none),([(33,some 0)],none)] mixed (by kernel_rfl) (by kernel_rfl) (by kernel_rfl) fun K hK=>dvp (fun σ wx hE hk=>zC ⟨Ext.refl _,hk.1⟩) (dvp (fun σ wx hE hk=>zJ zCS hk.1 ⟨Ext.refl _,rfl⟩) (dvp (fun σ wx hE hk=>zI zAn hk.1 (hB1.ext hE) rfl ⟨Ext.refl _,rfl⟩) (dvp (fun σ wx hE hk=>zp zz hk.1 (hB2.ext hE) (Nat.le_of_ble_eq_true rfl) ⟨Ext.refl _,rfl⟩) (dcp (fun v w'=>IsW w' v (y.den)) (fun _ _ _ _ hx h=>h.ext hx.toExt) (fun σ wx hE hk=>zH hb104 (CallK.of_ret (zCJ (IsNum.of_eq hk.1 (hy.ext hE))) fun v w2 hX hr=>⟨hX,hr⟩) rfl) (dcp (fun v w'=>IsW w' v (x.num.natAbs*y.den)) (fun _ _ _ _ hx h=>h.ext hx.toExt) (fun σ wx hE hk=>zH hb103 (CallK.of_ret (zEU (IsW.of_eq hk.1 (hxn.ext hE)) hk.2.1 hf.xn hf.yd) fun v w2 hX hr=>⟨hX,hr⟩) rfl) (dvp (fun σ wx hE hk=>zJ zCS hk.1 ⟨Ext.refl _,rfl⟩) (dvp (fun σ wx hE hk=>zI zAn hk.1 (hB2.ext hE) rfl ⟨Ext.refl _,rfl⟩) (dvp (fun σ wx hE hk=>zp zz hk.1 (hB1.ext hE) (Nat.le_of_ble_eq_true rfl) ⟨Ext.refl _,rfl⟩) (dcp (fun v w'=>IsW w' v (x.den)) (fun _ _ _ _ hx h=>h.ext hx.toExt) (fun σ wx hE hk=>zH hb104 (CallK.of_ret (zCJ (IsNum.of_eq hk.1 (hx.ext hE))) fun v w2 hX hr=>⟨hX,hr⟩) rfl) (dcp (fun v w'=>IsW w' v (y.num.natAbs*x.den)) (fun _ _ _ _ hx h=>h.ext hx.toExt) (fun σ wx hE hk=>zH hb103 (CallK.of_ret (zEU (IsW.of_eq hk.1 (hyn.ext hE)) hk.2.1 hf.yn hf.xd) fun v w2 hX hr=>⟨hX,hr⟩) rfl) ?_))))))))))))
   refine dcp (fun v _=>∃ c,v = .int .i64 c∧CmpIs c (x.num.natAbs*y.den) (y.num.natAbs*x.den)) (fun _ _ _ _ _ h=>h) (fun σ wx hE hk=>zH hb174 (CallK.of_ret (zPE hk.1 hk.2.1 hf.nd hf.nd') fun v w2 hX hr=>⟨hX,hr⟩) rfl) ?_;refine dcp (fun v _=>∃ c:Int,v = .int .i64 (if c<1 then c else 1)∧CmpIs c (x.num.natAbs*y.den) (y.num.natAbs*x.den)) (fun _ _ _ _ _ h=>h) (fun σ wx hE hk=>(by obtain ⟨c,e,hc⟩:=hk.1;exact zIC rfl e ⟨Ext.refl _,c,rfl,hc⟩)) ?_;refine dcp (fun v _=>∃ c:Int,v = .int .i64 (if (-1:Int)<(if c<1 then c else 1) then (if c<1 then c else 1) else -1)∧CmpIs c (x.num.natAbs*y.den) (y.num.natAbs*x.den)) (fun _ _ _ _ _ h=>h) (fun σ wx hE hk=>(by obtain ⟨c,e,hc⟩:=hk.1;exact zCG rfl e ⟨Ext.refl _,c,rfl,hc⟩)) ?_;refine dcp (fun v _=>v = .int .i64 (rcmpI x y)) (fun _ _ _ _ _ h=>h) (fun σ wx hE hk=>(by obtain ⟨c,e,hc⟩:=hk.2.1;exact zF hk.1 e rfl ⟨Ext.refl _,congrArg (Value.int .i64) (cmp_same heq hc)⟩)) ?_;refine dcp (fun v _=>v = .int .i64 (rcmpI x y)) (fun _ _ _ _ _ h=>h) (fun σ wx hE hk=>zZ ⟨Ext.refl _,hk.1⟩) (zBW (hK _ fun wq hE => ?_));rintro _ rfl _ rfl _ rfl _ rfl v23 N23 v24 N24 _ rfl _ rfl _ rfl v28 N28 v29 N29 v30 N30 v31 N31 v32 N32 v33 N33 v4 N4;refine zn ?_;replace E0:=E0.trans hE
   replace hx:=hx.ext hE;replace hy:=hy.ext hE;replace hxn:=hxn.ext hE;replace hyn:=hyn.ext hE;replace hB1:=hB1.ext hE;replace hB2:=hB2.ext hE;clear hE;refine zN (K5 [4] ?_);exact zB (en rfl E0 N4)
end Go.Proofs.YtjiendlfobjanaaGreatDoor
namespace Go.Proofs.YtjiendlfobjanaaGreatDoor
open Go Go.RowKit Go.Proofs Tryz
variable {T ty:TypeId} {af:Array Edge} {b c cap i ix k o sz':Nat} {cs:List Value} {g:Option (Nat×Bool)} {l:List Rat} {pos:String} {r:Option Nat} {u v:Value} {w w':World} {σ:Operand→Value}
def PRd (w:World) (p:Option Addr) (l:List Rat):Prop :=
 l=[]∨∃ b o cs,p=some ⟨b,o,none⟩∧Blk w b 37 cs∧o+3*l.length≤cs.length∧∀ i,i<l.length→IsNum w (.agg ((cs.drop (o+3*i)).take 3).toArray) (l.getD i 0)
def zO (w:World) (v:Value) (l:List Rat):Prop:=∃ p cap,v = .slice p l.length cap∧l.length≤cap∧PRd w p l∧l.length≤4096
def IsOwn (sz:Nat) (w:World) (v:Value) (l:List Rat):Prop:=∃ p cap,v = .slice p l.length cap∧l.length≤cap∧PRd w p l∧l.length≤4096∧(l≠[]→∃ b,p=some ⟨b,0,none⟩∧sz≤b)
theorem IsOwn.poly {sz:Nat} (h:IsOwn sz w v l):zO w v l:=by
 obtain ⟨p,c,h1,h2,h3,h4,_⟩:=h;exact ⟨p,c,h1,h2,h3,h4⟩
theorem IsOwn.sz {sz:Nat} (h:IsOwn sz w v l) (hs:sz'≤sz):IsOwn sz' w v l:=by
 obtain ⟨p,c,h1,h2,h3,h4,h5⟩:=h;exact ⟨p,c,h1,h2,h3,h4,fun hn=>let ⟨b,e1,e2⟩:=h5 hn;⟨b,e1,Nat.le_trans hs e2⟩⟩
theorem PRd.ext {p:Option Addr} (h:PRd w p l) (hx:Ext w w'):PRd w' p l:=by
 rcases h with h | ⟨b,o,cs,h1,h2,h3,h4⟩
 · exact .inl h
 · exact .inr ⟨b,o,cs,h1,h2.ext hx,h3,fun i hi=>(h4 i hi).ext hx⟩
theorem zO.ext (h:zO w v l) (hx:Ext w w'):zO w' v l:=by
 obtain ⟨p,c,h1,h2,h3,h4⟩:=h;exact ⟨p,c,h1,h2,h3.ext hx,h4⟩
theorem IsOwn.ext {sz:Nat} (h:IsOwn sz w v l) (hx:Ext w w'):IsOwn sz w' v l:=by
 obtain ⟨p,c,h1,h2,h3,h4,h5⟩:=h;exact ⟨p,c,h1,h2,h3.ext hx,h4,h5⟩
theorem zO.of_eq (h:v=u) (hx:zO w u l):zO w v l:=h ▸ hx
theorem zO.nil:zO w (.slice none 0 0) []:=⟨none,0,rfl,Nat.le_refl _,.inl rfl,by decide⟩
theorem IsOwn.nil {sz:Nat}:IsOwn sz w (.slice none 0 0) []:=⟨none,0,rfl,Nat.le_refl _,.inl rfl,by decide,fun h=>absurd rfl h⟩
theorem PRd.upd {p:Option Addr} (h:PRd w p l) (hu:Upd b w w') (hb:Blk w b 37 cs) (hp:∀ a,p=some a→l≠[]→a.block≠b):PRd w' p l:=by
 rcases h with h | ⟨c,o,cs',h1,h2,h3,h4⟩
 · exact .inl h
 · by_cases h0:l=[]
   · exact .inl h0
   · exact .inr ⟨c,o,cs',h1,h2.upd hu (hp _ h1 h0),h3,fun i hi=>(h4 i hi).upd hu hb (by decide)⟩
theorem PRd.lt {p:Option Addr} (h:PRd w p l) (h0:l≠[]):∃ a,p=some a∧a.block<w.heap.size:=by
 rcases h with h | ⟨c,o,cs',h1,h2,h3,h4⟩
 · exact absurd h h0
 · exact ⟨_,h1,h2.lt⟩
theorem PRd.ne {p:Option Addr} (h:PRd w p l) (hb:w.heap.size≤b):∀ a,p=some a→l≠[]→a.block≠b:=fun a ha h0=>by
 obtain ⟨a',h1,h2⟩:=h.lt h0;rw [ha] at h1;cases h1;omega
theorem PRd.at {p:Option Addr} (h:PRd w p l) (hi:i<l.length):∃ b o cs,p=some ⟨b,o,none⟩∧Blk w b 37 cs∧o+3*i+3≤cs.length∧IsNum w (.agg ((cs.drop (o+3*i)).take 3).toArray) (l.getD i 0):=by
 rcases h with h | ⟨c,o,cs',h1,h2,h3,h4⟩
 · subst h;simp at hi
 · exact ⟨c,o,cs',h1,h2,by omega,h4 i hi⟩
theorem PRd.take {p:Option Addr} (h:PRd w p l) (n:Nat):PRd w p (l.take n):=by
 rcases h with h | ⟨b,o,cs,h1,h2,h3,h4⟩
 · exact .inl (by rw [h];simp)
 · refine .inr ⟨b,o,cs,h1,h2,by simp;omega,fun i hi => ?_⟩;have hi':i<n∧i<l.length:=by simp at hi;omega
   have:=h4 i hi'.2;rwa [show (l.take n).getD i 0=l.getD i 0 from by simp [hi'.1]]
theorem PRd.cells {p:Option Addr} (h:PRd w p l):∃ cs,Cells w p 37 cs∧cs.length=l.length*3∧∀ i,i<l.length→IsNum w (.agg ((cs.drop (3*i)).take 3).toArray) (l.getD i 0):=by
 rcases h with h | ⟨b,o,cs,h1,h2,h3,h4⟩
 · subst h;exact ⟨[],.inl rfl,rfl,fun i hi=>by simp at hi⟩
 · refine ⟨(cs.drop o).take (l.length*3),.inr ⟨b,o,cs,h1,h2,by simp⟩,by simp;omega,fun i hi => ?_⟩;have:=h4 i hi;rwa [show (((cs.drop o).take (l.length*3)).drop (3*i)).take 3=(cs.drop (o+3*i)).take 3 from by
    rw [List.drop_take,List.take_take,List.drop_drop,Nat.min_eq_left (by omega)]]
def PBlk (w:World) (b:Nat) (l:List Rat):Prop:=∃ cs,Blk w b 37 cs∧3*l.length≤cs.length∧∀ i,i<l.length→IsNum w (.agg ((cs.drop (3*i)).take 3).toArray) (l.getD i 0)
theorem PBlk.ext (h:PBlk w b l) (hx:Ext w w'):PBlk w' b l:=by
 obtain ⟨cs,h1,h2,h3⟩:=h;exact ⟨cs,h1.ext hx,h2,fun i hi=>(h3 i hi).ext hx⟩
theorem PBlk.lt (h:PBlk w b l):b<w.heap.size:=by obtain ⟨cs,h1,_⟩:=h;exact h1.lt
theorem PBlk.rd (h:PBlk w b l):PRd w (some ⟨b,0,none⟩) l:=by
 obtain ⟨cs,h1,h2,h3⟩:=h;exact .inr ⟨b,0,cs,rfl,h1,by omega,fun i hi=>by rw [Nat.zero_add];exact h3 i hi⟩
theorem PRd.blk (h:PRd w (some ⟨b,0,none⟩) l) (h0:l≠[]):PBlk w b l:=by
 rcases h with h | ⟨c,o,cs,h1,h2,h3,h4⟩
 · exact absurd h h0
 · cases h1;exact ⟨cs,h2,by omega,fun i hi=>by have:=h4 i hi;rwa [Nat.zero_add] at this⟩
theorem PBlk.upd (h:PBlk w b l) (hu:Upd c w w') (hc:Blk w c 37 cs) (hne:b≠c):PBlk w' b l:=by
 obtain ⟨cs',h1,h2,h3⟩:=h;exact ⟨cs',h1.upd hu hne,h2,fun i hi=>(h3 i hi).upd hu hc (by decide)⟩
theorem splice3 (cs:List Value) (o:Nat) (a b c:Value):zBt cs o [a,b,c]=((cs.set o a).set (o+1) b).set (o+2) c:=rfl
theorem zBM {a b c:Value} (hk:3*k+3≤cs.length):((zBt cs (3*k) [a,b,c]).drop (3*i)).take 3=if i=k then [a,b,c] else (cs.drop (3*i)).take 3:=by
 rw [splice3];apply List.ext_getElem?;intro j;by_cases hj:j<3
 · rw [List.getElem?_take,if_pos hj,List.getElem?_drop];by_cases hik:i=k
   · subst hik;rw [if_pos rfl];have h0:3*i<cs.length:=by omega
     have h1:3*i+1<cs.length:=by omega
     have h2:3*i+2<cs.length:=by omega
     match j,hj with
     | 0,_=>simp [List.getElem?_set,h0,h1,h2]
     | 1,_=>simp [List.getElem?_set,h0,h1,h2]
     | 2,_=>simp [List.getElem?_set,h0,h1,h2]
   · rw [if_neg hik,List.getElem?_set_ne (by omega),List.getElem?_set_ne (by omega),List.getElem?_set_ne (by omega),List.getElem?_take,if_pos hj,List.getElem?_drop]
 · rw [List.getElem?_take,if_neg hj];split
   · rw [List.getElem?_eq_none (by simp;omega)]
   · rw [List.getElem?_take,if_neg hj]
section laws
variable {K:Value→World→Prop} {d:Option Tmp}
theorem zBP {x y:Operand} {q:Rat} (hx:σ x = .pointer (some ⟨b,o,none⟩)) (ho:o=3*k) (hy:IsNum w (σ y) q) (hB:PBlk w b l) (hk:k<l.length)
 (hc:∀ v w',Upd b w w'→PBlk w' b (l.set k q)→K v w'):Runs prog r ⟨d,.store 37 x y,ty,pos,af,g⟩ σ w K:=by
 subst ho;obtain ⟨cs,hB,hl,hN⟩:=hB;have hy0:=hy;obtain ⟨n,dd,he,hn,hd⟩:=hy;obtain ⟨p1,ds1,c1,rfl,-⟩:=hn;obtain ⟨p2,ds2,c2,rfl,-⟩:=hd;refine zt zHb hx hB (by rw [he];rfl) (by omega) (by decide) (by rw [he];rfl) fun w' hU hS=>hc _ w' hU ?_;rw [he] at hS hy0;refine ⟨_,hS,by rw [zAz,List.length_set];exact hl,fun i hi => ?_⟩;rw [List.length_set] at hi;show IsNum w' (.agg (((zBt cs (3*k) [_,_,_]).drop (3*i)).take 3).toArray) _;rw [zBM (by omega)];by_cases hik:i=k
 · subst hik;rw [if_pos rfl,show (l.set i q).getD i 0=q from by simp [hi]];exact hy0.upd hU hB (by decide)
 · rw [if_neg hik,show (l.set k q).getD i 0=l.getD i 0 from by simp [List.getElem?_set_ne (Ne.symm hik)]];exact (hN i hi).upd hU hB (by decide)
theorem zBB {x:Operand} {q:Rat} (hx:σ x = .pointer (some ⟨b,o,none⟩)) (hB:Blk w b T cs) (hl:o+3≤cs.length) (hN:IsNum w (.agg ((cs.drop o).take 3).toArray) q) (hk:∀ v,IsNum w v q→K v w) :
 Runs prog r ⟨d,.load 37 x,ty,pos,af,g⟩ σ w K:=zp zz hx hB hl (hk _ hN)
theorem zR {x:Operand} {q:Rat} (hx:σ x = .pointer (some ⟨b,0,none⟩)) (h:NumAt b q w) (hk:∀ v,IsNum w v q→K v w):Runs prog r ⟨d,.load 37 x,ty,pos,af,g⟩ σ w K:=by
 obtain ⟨cs,hB,hl,hN⟩:=h;refine zBB hx hB (by omega) ?_ hk;rw [List.drop_zero,List.take_of_length_le (by omega)];exact hN
theorem zAS {x:Operand} {p:Option Addr} (hP:PRd w p l) (hi:i<l.length) (hx:σ x = .pointer (p.map fun a=>a.add (3*i))) (hk:∀ v,IsNum w v (l.getD i 0)→K v w):Runs prog r ⟨d,.load 37 x,ty,pos,af,g⟩ σ w K:=by
 obtain ⟨b,o,cs,h1,h2,h3,h4⟩:=hP.at hi;rw [h1] at hx;exact zBB (o:=o+3*i) (by rw [hx];simp [zAu]) h2 h3 h4 hk
theorem zAB:zBA prog 25 37 3:=by unfold zBA;exact ⟨by kernel_rfl,by kernel_rfl⟩
theorem zAb:prog.underlying 25=some (.slice 37):=by kernel_rfl
theorem zAL {x i:Operand} {p:Option Addr} {k:IntKind} (hP:PRd w p l) (hx:σ x = .slice p l.length cap) (hi:σ i = .int k (ix:Int)) (h1:ix<l.length) (hk:K (.pointer (p.map fun a=>a.add (3*ix))) w):Runs prog r ⟨d,.indexAddr 25 x i,ty,pos,af,g⟩ σ w K:=by
 obtain ⟨b,o,cs,e1,h2,h3,h4⟩:=hP.at h1;subst e1;refine zE zAB hx hi (by omega) (by omega) ?_;rw [show o+((ix:Nat):Int).toNat*3=o+3*ix from by omega];simpa [zAu] using hk
end laws
end Go.Proofs.YtjiendlfobjanaaGreatDoor
namespace Go.Proofs.YtjiendlfobjanaaGreatDoor
open Go Go.RowKit Go.Proofs Tryz
set_option maxRecDepth 10000
set_option maxHeartbeats 2000000
attribute [local irreducible] Runs WPE CallK Ret
variable {E c i k m n:Nat} {P:Program} {af:Array Edge} {cs:List Value} {g:Option (Nat×Bool)} {l:List Rat} {pos:String} {r:Option Nat} {t' ty:TypeId} {u v:Value} {w w':World} {x y:Rat} {σ:Operand→Value}
theorem up_isW {x:Value} (hx:IsW w x n) (hf:Fit n) (hk:k≤64):Ret prog 267 #[x,.int .i64 (k:Int)] w (fun v w'=>IsW w' v (n*2^k)):=by
 obtain ⟨p,ds,c,rfl,h2,h3,h4,h5⟩:=hx;have hl:=h4.fit (h5 ▸ hf);refine (up_ok h3 h4.1 (by omega) (by omega)).mono fun v w' _ h => ?_;obtain ⟨ob,es,O,e1,e2,e3,e4,e5,e6,e7,e8⟩:=h;exact ⟨_,es,_,e1,e2,e3,e4,by rw [e5,h5]⟩
theorem q_half (x:Rat):x*(1/2)=qOf (decide (x<0)) x.num.natAbs (x.den*2^1):=by
 rw [q_mul x (1/2),show decide ((1/2:Rat)<0)=false from by decide +kernel,show (1/2:Rat).num.natAbs=1 from by decide +kernel,show (1/2:Rat).den=2 from by decide +kernel,Nat.mul_one,Bool.bne_false]
theorem fit_half (hr:rroom x (1/2)=true):Fit (x.den*2^1):=by
 have:=(zHC hr).dd;rwa [show (1/2:Rat).den=2^1 from by decide +kernel] at this
theorem zLa:zAc prog 47 0 0:=by unfold zAc;kernel_rfl
theorem zNZ:zAc prog 47 1 3:=by unfold zAc;kernel_rfl
def zIS (w:World) (v:Value) (a b:Rat):Prop:=∃ n1 d1 n2 d2,v = .agg #[.bool (decide (a<0)),n1,d1,.bool (decide (b<0)),n2,d2]∧IsNum w (.agg #[.bool (decide (a<0)),n1,d1]) a∧IsNum w (.agg #[.bool (decide (b<0)),n2,d2]) b
theorem zIS.ext {a b:Rat} (h:zIS w v a b) (hx:Ext w w'):zIS w' v a b:=by
 obtain ⟨n1,d1,n2,d2,h1,h2,h3⟩:=h;exact ⟨n1,d1,n2,d2,h1,h2.ext hx,h3.ext hx⟩
theorem zEX:(prog.info? 37).map (fun i=>(i.zero,i.size,i.bytes))=some (some (.agg #[.bool false,.slice none 0 0,.slice none 0 0]),3,56):=by kernel_rfl
section laws
variable {K:Value→World→Prop} {d:Option Tmp}
theorem run_eqGuard_slice (op:BinOp) (t:TypeId) (x y:Operand) (p q:Option Addr) (l c l' c':Nat) (w:World):(eqGuard op t x y (.slice p l c) (.slice q l' c')).run P w = .ok () w:=by
 unfold eqGuard;cases op<;>simp
theorem zGr {t e:TypeId} {x y:Operand} {p:Option Addr} {l:Nat} (hT:P.underlying t=some (.slice e)) (hx:σ x = .slice p l c) (hy:σ y = .slice none 0 0) (hk:K (.bool p.isNone) w):Runs P r ⟨d,.binOp .eql t x y t',ty,pos,af,g⟩ σ w K:=by
 refine zq (fun _ e=>by cases e) ?_ hk;simp [execOp,binOp,hx,hy,run_eqGuard_slice,run_equal_slice_nil w t e p l c hT]
theorem zEv {T:Nat} (hT:P.underlying T=some (.slice E)) (hi:(P.info? E).map (·.size)=some n) (hk:∀ b w',b=w.heap.size→Ext w w'→w'.heap.size=b+1→K (.slice (some ⟨b,0,none⟩) 0 0) w'):Runs P r ⟨d,.buildSlice T 0 #[],ty,pos,af,g⟩ σ w K:=by
 refine zBQ (fun _ e=>by cases e) (v := .slice (some ⟨w.heap.size,0,none⟩) 0 0) (w':={ w with heap:=w.heap.push (.cells #[] E) }) ?_ (hk _ _ rfl (Ext.push _) (by simp));simp only [execOp,Instr.buildSlice];simp [run_underlying hT,run_sizeOf' hi,Instr.fill,newRow];exact congrArg (fun c=>w.alloc (Obj.cells c E)) (Array.eq_empty_of_size_eq_zero (by simp))
end laws
theorem zDH {rest:List Value} (h:3*i+3≤cs.length):((cs++rest).drop (3*i)).take 3=(cs.drop (3*i)).take 3:=by
 rw [List.drop_append_of_le_length (by omega),List.take_append_of_le_length (by simp;omega)]
theorem zEc (h:m<l.length):l.take (m+1)=l.take m++[l.getD m 0]:=by
 rw [List.take_succ_eq_append_getElem h];simp [h]
theorem trim_zero (h:m<l.length) (h0:l.getD m 0=0):trim (l.take (m+1))=trim (l.take m):=by
 rw [zEc h,h0];simp [trim]
theorem trim_top (h:m<l.length) (h0:l.getD m 0≠0):trim (l.take (m+1))=l.take (m+1):=by
 rw [zEc h];generalize l.getD m 0=x at *;simp [trim,h0]
theorem zFi:rsign x=0↔x=0:=by
 unfold rsign;rw [Int.sign_eq_zero_iff_zero,Rat.num_eq_zero]
def rminR (x y:Rat):Rat:=if rcmpI y x<0 then y else x
theorem Min_ok (hx:IsNum w u x) (hy:IsNum w v y) (hr:rroom y x=true):Ret prog 81 #[u,v] w (fun r w'=>IsNum w' r (rminR x y)):=by
 have hx0:=hx;have hy0:=hy;obtain ⟨xn,xd,rfl,hxn,hxd⟩:=hx0;obtain ⟨yn,yd,rfl,hyn,hyd⟩:=hy0;refine J0 11 func81 rfl (rj fun K => ?_);refine K1 (zAA fun b1 w1 hb hE hB1 hs => ?_);have hgb1:w.heap.size≤b1:=by rw [hb];exact E0.size
 replace E0:=E0.trans hE;replace hx:=hx.ext hE;replace hy:=hy.ext hE;clear hE hs hb;refine K1 (zAA fun b2 w2 hb hE hB2 hs => ?_);have hgb2:w.heap.size≤b2:=by rw [hb];exact E0.size
 have ne_b1_b2:b1≠b2:=by have:=hB1.lt;omega
 replace E0:=E0.trans hE;replace hx:=hx.ext hE;replace hy:=hy.ext hE;replace hB1:=hB1.ext hE;clear hE hs hb;refine K1 (zd zAa fun b3 w3 hb hE hB3 hs => ?_);have hgb3:w.heap.size≤b3:=by rw [hb];exact E0.size
 have ne_b1_b3:b1≠b3:=by have:=hB1.lt;omega
 have ne_b2_b3:b2≠b3:=by have:=hB2.lt;omega
 replace E0:=E0.trans hE;replace hx:=hx.ext hE;replace hy:=hy.ext hE;replace hB1:=hB1.ext hE;replace hB2:=hB2.ext hE;clear hE hs hb;refine rm [2,3,4] K ?_;refine zA (rj fun K=>K1 (zp zz rfl hB2 (Nat.le_of_ble_eq_true rfl) (K1 (zp zz rfl hB1 (Nat.le_of_ble_eq_true rfl) (K1 (j5 E0 hx.ext hy.ext hB1.ext hB2.ext hB3.ext hb73 (zEH hy hx hr) fun v1_2 w4 E0 hx hy hB1 hB2 hB3 hr => ?_))))));subst hr;refine K8 rfl (rm [2,3,4,8] K ?_);refine K0 rfl ?_ ?_<;>intro hc
 · have hlt:rcmpI y x<0:=of_decide_eq_true hc;clear hc;refine rj fun K=>K1 (zp zz rfl hB2 (Nat.le_of_ble_eq_true rfl) (K1 (zK rfl hy (Cell3.of hB3 rfl) fun _ w9 hU hN => ?_)));replace E0:=E0.upd hU hgb3;obtain ⟨cs,hB4,hl4,hN4⟩:=hN;refine rm [4] K ?_;refine zB (zU (zQ ?_));exact ⟨rfl,_,zAD rfl rfl rfl zz hB4 hl4,E0,by rw [rminR,if_pos hlt];exact hN4⟩
 · have hlt:¬ rcmpI y x<0:=of_decide_eq_false hc;clear hc;refine sk (rj fun K=>K1 (zp zz rfl hB1 (Nat.le_of_ble_eq_true rfl) (K1 (zK rfl hx (Cell3.of hB3 rfl) fun _ w9 hU hN => ?_))));replace E0:=E0.upd hU hgb3;obtain ⟨cs,hB4,hl4,hN4⟩:=hN;refine rm [4] K ?_;refine zB (zQ ?_);exact ⟨rfl,_,zAD rfl rfl rfl zz hB4 hl4,E0,by rw [rminR,if_neg hlt];exact hN4⟩
theorem shifted_ok (hx:IsNum w v x) (hr:rroom x (1/2)=true):Ret prog 223 #[v,.int .i64 (-1)] w (fun r w'=>IsNum w' r (x*(1/2))):=by
 have hf:=zHC hr;have hx0:=hx;obtain ⟨xn,xd,rfl,hxn,hxd⟩:=hx0;refine J0 26 func223 rfl (rj fun K => ?_);refine K1 (zAA fun b1 w1 hb hE hB1 hs => ?_);have hgb1:w.heap.size≤b1:=by rw [hb];exact E0.size
 replace E0:=E0.trans hE;replace hx:=hx.ext hE;replace hxn:=hxn.ext hE;clear hE hs hb;refine K1 (zd zAa fun b2 w2 hb hE hB2 hs => ?_);have hgb2:w.heap.size≤b2:=by rw [hb];exact E0.size
 have ne_b1_b2:b1≠b2:=by have:=hB1.lt;omega
 replace E0:=E0.trans hE;replace hx:=hx.ext hE;replace hxn:=hxn.ext hE;replace hB1:=hB1.ext hE;clear hE hs hb;refine rm [1,2,4] K ?_;refine zA (rJ fun K=>K8 rfl (rm [1,2,4,6] K ?_));refine wct rfl (zA ?_);have hnw:NoW [b2] _:=noW1 hB2 (by decide)
 refine zCt [⟨10,b2,Cell3 b2,NumAt b2 (x*(1/2))⟩] [([(2,none)],none),([(7,some 0)],none),([(2,none)],none),([(9,some 0)],none),([(2,none)],none),([(11,some 0)],none),([(1,none)],none),([(13,some 0)],none),([(12,some 2),(14,some 0)],none),([(8,some 7),(10,some 5),(15,some 0)],none),([(4,none),(16,some 0)],none)] mixed (by kernel_rfl) (by kernel_rfl) (by kernel_rfl) (by simp) (by kernel_rfl) (all1 (zGF hB2 rfl)) fun K hK=>dsv rfl (fun σ wx hE hk=>zJ zDM hk.1 ⟨Ext.refl _,rfl⟩) (dsv rfl (fun σ wx hE hk=>zI zCj hk.1 (hB1.extS hE (nin1 ne_b1_b2)) rfl ⟨Ext.refl _,rfl⟩) (dsv rfl (fun σ wx hE hk=>zJ zCS hk.1 ⟨Ext.refl _,rfl⟩) (dsv rfl (fun σ wx hE hk=>zI zAn hk.1 (hB1.extS hE (nin1 ne_b1_b2)) rfl ⟨Ext.refl _,rfl⟩) (dsv rfl (fun σ wx hE hk=>zp zz hk.1 (hB1.extS hE (nin1 ne_b1_b2)) (Nat.le_of_ble_eq_true rfl) ⟨Ext.refl _,rfl⟩) (dsn (fun v w'=>IsW w' v (x.den)) rfl (fun _ _ _ h1 hx h=>h.extS hx (hnw.ext h1)) (fun σ wx hE hk=>zH hb104 (CallK.of_ret (zCJ (IsNum.of_eq hk.1 (hx.extS hE hnw))) fun v w2 hX hr=>⟨hX,hr⟩) rfl) (dsv rfl (fun σ wx hE hk=>zC ⟨Ext.refl _,hk.1⟩) (dsv rfl (fun σ wx hE hk=>zKQ hk.1 ⟨Ext.refl _,rfl⟩) (dsn (fun v w'=>IsW w' v (x.den*2^1)) rfl (fun _ _ _ h1 hx h=>h.extS hx (hnw.ext h1)) (fun σ wx hE hk=>zH hb267 (CallK.eq2 rfl hk.2.1 (CallK.of_ret (up_isW (k:=1) hk.1 hf.xd (by decide)) fun v w2 hX hr=>⟨hX,hr⟩)) rfl) ?_))))))))
 refine dsn (fun v w'=>IsNum w' v (x*(1/2))) rfl (fun _ _ _ h1 hx h=>h.extS hx (hnw.ext h1)) (fun σ wx hE hk=>zH hb102 (CallK.eq3 hk.1 rfl rfl (CallK.of_ret (zBY (IsW.of_eq hk.2.1 (hxn.extS hE hnw)) hk.2.2.1 (Nat.mul_ne_zero x.den_nz (by decide)) hf.xn (fit_half hr)) fun v w2 hX hr=>⟨hX,by rw [q_half];exact hr⟩)) rfl) ?_;refine dss _ rfl (fun σ wx hE hpre hk=>zAy hk.1 hk.2.1 hpre) (zIB (hK _ fun wq hS hP => ?_));rintro _ rfl _ rfl _ rfl _ rfl _ rfl v12 N12 _ rfl _ rfl v15 N15 v16 N16 _ _;refine zn ?_;obtain ⟨⟨cs,hB4,hl4,hN4⟩,-⟩:=hP;replace E0:=E0.updS hS hgb2;refine zN (K5 [4] ?_);exact zB (zU (zQ ⟨rfl,_,zAD rfl rfl rfl zz hB4 hl4,E0,hN4⟩))
theorem SpanMid_ok {a b:Rat} (hs:zIS w v a b) (hr:rroom a b=true) (hr2:rroom (a+b) (1/2)=true):Ret prog 138 #[v] w (fun r w'=>IsNum w' r ((a+b)*(1/2))):=by
 obtain ⟨n1,d1,n2,d2,rfl,hx,hy⟩:=hs;refine J0 9 func138 rfl (rj fun K => ?_);refine K1 (zAA fun b1 w1 hb hE hB1 hs => ?_);have hgb1:w.heap.size≤b1:=by rw [hb];exact E0.size
 replace E0:=E0.trans hE;replace hx:=hx.ext hE;replace hy:=hy.ext hE;clear hE hs hb;refine K1 (zd zAa fun b2 w2 hb hE hB2 hs => ?_);have hgb2:w.heap.size≤b2:=by rw [hb];exact E0.size
 have ne_b1_b2:b1≠b2:=by have:=hB1.lt;omega
 replace E0:=E0.trans hE;replace hx:=hx.ext hE;replace hy:=hy.ext hE;replace hB1:=hB1.ext hE;clear hE hs hb;refine rm [1,2] K ?_;refine rj fun K=>K1 (zJ zLa rfl (K1 (zp zz rfl hB1 (Nat.le_of_ble_eq_true rfl) (K1 (zJ zNZ rfl (K1 (zp zz rfl hB1 (Nat.le_of_ble_eq_true rfl) (K1 (j4 E0 hx.ext hy.ext hB1.ext hB2.ext hb146 (zJg hx hy hr) fun v1_4 w3 E0 hx hy hB1 hB2 N7=>K1 (j5 E0 hx.ext hy.ext hB1.ext hB2.ext N7.ext hb223 (shifted_ok N7 hr2) fun v1_5 w4 E0 hx hy hB1 hB2 N7 N8=>K1 (zK rfl N8 (Cell3.of hB2 rfl) fun _ w9 hU hN => ?_)))))))))));replace E0:=E0.upd hU hgb2;obtain ⟨cs,hB4,hl4,hN4⟩:=hN;refine rm [2] K ?_;exact zB (zQ ⟨rfl,_,zAD rfl rfl rfl zz hB4 hl4,E0,hN4⟩)
theorem SpanWidth_ok {a b:Rat} (hs:zIS w v a b) (hr:rroom b a=true):Ret prog 147 #[v] w (fun r w'=>IsNum w' r (rabs (b-a))):=by
 obtain ⟨n1,d1,n2,d2,rfl,hx,hy⟩:=hs;refine J0 9 func147 rfl (rj fun K => ?_);refine K1 (zAA fun b1 w1 hb hE hB1 hs => ?_);have hgb1:w.heap.size≤b1:=by rw [hb];exact E0.size
 replace E0:=E0.trans hE;replace hx:=hx.ext hE;replace hy:=hy.ext hE;clear hE hs hb;refine K1 (zd zAa fun b2 w2 hb hE hB2 hs => ?_);have hgb2:w.heap.size≤b2:=by rw [hb];exact E0.size
 have ne_b1_b2:b1≠b2:=by have:=hB1.lt;omega
 replace E0:=E0.trans hE;replace hx:=hx.ext hE;replace hy:=hy.ext hE;replace hB1:=hB1.ext hE;clear hE hs hb;refine rm [1,2] K ?_;refine rj fun K=>K1 (zJ zNZ rfl (K1 (zp zz rfl hB1 (Nat.le_of_ble_eq_true rfl) (K1 (zJ zLa rfl (K1 (zp zz rfl hB1 (Nat.le_of_ble_eq_true rfl) (K1 (j4 E0 hx.ext hy.ext hB1.ext hB2.ext hb237 (zPk hy hx hr) fun v1_4 w3 E0 hx hy hB1 hB2 N7=>K1 (j5 E0 hx.ext hy.ext hB1.ext hB2.ext N7.ext hb236 (zPq N7) fun v1_5 w4 E0 hx hy hB1 hB2 N7 N8=>K1 (zK rfl N8 (Cell3.of hB2 rfl) fun _ w9 hU hN => ?_)))))))))));replace E0:=E0.upd hU hgb2;obtain ⟨cs,hB4,hl4,hN4⟩:=hN;refine rm [2] K ?_;exact zB (zQ ⟨rfl,_,zAD rfl rfl rfl zz hB4 hl4,E0,hN4⟩)
theorem zHv (hx:IsNum w u x) (hy:IsNum w v y) (hr:rroom x y=true):Ret prog 69 #[u,v] w (fun r w'=>IsNum w' r (x/y)):=by
 have hx0:=hx;have hy0:=hy;obtain ⟨xn,xd,rfl,hxn,hxd⟩:=hx0;obtain ⟨yn,yd,rfl,hyn,hyd⟩:=hy0;refine J0 14 func69 rfl (rj fun K => ?_);refine K1 (zAA fun b1 w1 hb hE hB1 hs => ?_);have hgb1:w.heap.size≤b1:=by rw [hb];exact E0.size
 replace E0:=E0.trans hE;replace hx:=hx.ext hE;replace hy:=hy.ext hE;clear hE hs hb;refine K1 (zAA fun b2 w2 hb hE hB2 hs => ?_);have hgb2:w.heap.size≤b2:=by rw [hb];exact E0.size
 have ne_b1_b2:b1≠b2:=by have:=hB1.lt;omega
 replace E0:=E0.trans hE;replace hx:=hx.ext hE;replace hy:=hy.ext hE;replace hB1:=hB1.ext hE;clear hE hs hb;refine K1 (zd zAa fun b3 w3 hb hE hB3 hs => ?_);have hgb3:w.heap.size≤b3:=by rw [hb];exact E0.size
 have ne_b1_b3:b1≠b3:=by have:=hB1.lt;omega
 have ne_b2_b3:b2≠b3:=by have:=hB2.lt;omega
 replace E0:=E0.trans hE;replace hx:=hx.ext hE;replace hy:=hy.ext hE;replace hB1:=hB1.ext hE;replace hB2:=hB2.ext hE;clear hE hs hb;refine rm [2,3,4] K ?_;refine rj fun K=>K1 (zp zz rfl hB1 (Nat.le_of_ble_eq_true rfl) (K1 (zp zz rfl hB2 (Nat.le_of_ble_eq_true rfl) (K1 (j5 E0 hx.ext hy.ext hB1.ext hB2.ext hB3.ext hb37 (zPj hx hy hr) fun v1_2 w4 E0 hx hy hB1 hB2 hB3 hr => ?_)))));obtain ⟨q,rfl,hq⟩:=hr;refine mv (xt rfl (xt rfl ?_));refine K1 (zd zAa fun b5 w5 hb hE hB5 hs => ?_);have hgb5:w.heap.size≤b5:=by rw [hb];exact E0.size
 have ne_b1_b5:b1≠b5:=by have:=hB1.lt;omega
 have ne_b2_b5:b2≠b5:=by have:=hB2.lt;omega
 have ne_b3_b5:b3≠b5:=by have:=hB3.lt;omega
 replace E0:=E0.trans hE;replace hx:=hx.ext hE;replace hy:=hy.ext hE;replace hB1:=hB1.ext hE;replace hB2:=hB2.ext hE;replace hB3:=hB3.ext hE;replace hq:=hq.ext hE;clear hE hs hb;refine K1 (zK rfl hq (Cell3.of hB5 rfl) fun _ w9 hU hN5 => ?_);replace E0:=E0.upd hU hgb5;replace hB3:=hB3.upd hU ne_b3_b5;refine ag (rm [4,5] K ?_);refine rj fun K=>K1 (zR rfl hN5 fun v13 hq2=>K1 (zK rfl hq2 (Cell3.of hB3 rfl) fun _ w9 hU hN => ?_));replace E0:=E0.upd hU hgb3;obtain ⟨cs,hB4,hl4,hN4⟩:=hN;refine rm [4] K ?_;exact zB (zQ ⟨rfl,_,zAD rfl rfl rfl zz hB4 hl4,E0,hN4⟩)
theorem zEs:Ret prog 100 #[] w (fun r w'=>IsNum w' r 1):=by
 refine J0 2 func100 rfl (rj fun K => ?_);refine K1 (zd zAa fun b1 w1 hb hE hB1 hs => ?_);have hgb1:w.heap.size≤b1:=by rw [hb];exact E0.size
 replace E0:=E0.trans hE;clear hE hs hb;refine rm [0] K ?_;refine rj fun K=>K1 (j1 E0 hB1.ext hb38 (zDO (by decide) (by decide)) fun v1_0 w2 E0 hB1 N1=>K1 (zK rfl N1 (Cell3.of hB1 rfl) fun _ w9 hU hN => ?_));replace E0:=E0.upd hU hgb1;obtain ⟨cs,hB4,hl4,hN4⟩:=hN;refine rm [0] K ?_;exact zB (zQ ⟨rfl,_,zAD rfl rfl rfl zz hB4 hl4,E0,hN4⟩)
theorem zIq {a b:Int} (h1 : -9223372036854775808≤a) (h2:a≤9223372036854775807) (h3 : -9223372036854775808≤b) (h4:b≤9223372036854775807) (hr:rroom (a:Rat) (b:Rat)=true):Ret prog 96 #[.int .i64 a,.int .i64 b] w (fun r w'=>IsNum w' r ((a:Rat)/(b:Rat))):=by
 refine J0 10 func96 rfl (rj fun K => ?_);refine K1 (zd zAa fun b1 w1 hb hE hB1 hs => ?_);have hgb1:w.heap.size≤b1:=by rw [hb];exact E0.size
 replace E0:=E0.trans hE;clear hE hs hb;refine rm [0,1,4] K ?_;refine rJ fun K=>K1 (j1 E0 hB1.ext hb38 (zDO h1 h2) fun v1_1 w2 E0 hB1 N6=>mv (K1 (j2 E0 hB1.ext N6.ext hb38 (zDO h3 h4) fun v1_3 w3 E0 hB1 N6 N8=>K1 (j3 E0 hB1.ext N6.ext N8.ext hb69 (zHv N6 N8 hr) fun v1_4 w4 E0 hB1 N6 N8 N9=>K1 (zK rfl N9 (Cell3.of hB1 rfl) fun _ w9 hU hN => ?_)))));replace E0:=E0.upd hU hgb1;obtain ⟨cs,hB4,hl4,hN4⟩:=hN;refine rm [4] K ?_;exact zB (zQ ⟨rfl,_,zAD rfl rfl rfl zz hB4 hl4,E0,hN4⟩)
theorem zGV (hp:zO w v l):Ret prog 68 #[v] w (fun r w'=>IsOwn w.heap.size w' r l):=by
 obtain ⟨p,cap,rfl,hc,hP,hl⟩:=hp;refine J0 8 func68 rfl (rj fun K=>ag (rm [0] K ?_));refine zA (zA ?_);rcases p with _ | a
 · obtain rfl:l=[]:=by
    rcases hP with h | ⟨b,o,cs,h1,_⟩
    · exact h
    · cases h1
   refine rI fun K=>K1 (zGr zAb rfl rfl (rs [0,4] K ?_));refine wct rfl (rj fun K=>ag (rm [2] K ?_));exact zB (zU (en rfl E0 IsOwn.nil))
 · skip
   refine rI fun K=>K1 (zGr zAb rfl rfl (rs [0,4] K ?_));refine wcf rfl (sk (zA ?_));rcases (show l=[]∨l≠[] from Classical.em _) with h0 | h0
   · subst h0;refine K6 fun K=>K1 (zEv zAb zHb fun b0 w1 hb0 hE hs => ?_);have hgb0:w.heap.size≤b0:=by rw [hb0];exact E0.size
     replace E0:=E0.trans hE;replace hP:=hP.ext hE;clear hE hs hb0;refine mv (K1 (zFG zAb zAb zEX rfl rfl (Nat.le_refl _) (ag (rs [2] K ?_))));exact zB (en rfl E0 ⟨_,0,rfl,Nat.le_refl _,.inl rfl,by decide,fun h=>absurd rfl h⟩)
   · have hl0:0<l.length:=List.length_pos_iff.2 h0;refine K6 fun K=>K1 (zEv zAb zHb fun b0 w1 hb0 hE hs => ?_);have hgb0:w.heap.size≤b0:=by rw [hb0];exact E0.size
     replace E0:=E0.trans hE;replace hP:=hP.ext hE;clear hE hs hb0;refine mv ?_;obtain ⟨cs,hcs,hcl,hcn⟩:=hP.cells;refine K1 (zAW zAb zAb zEX rfl (by decide) rfl rfl (.inl rfl) rfl hcs hcl (by omega) (by have:=zAi (0+l.length) 0;omega) fun w2 rest c hcc hE hB hrest hs => ?_);rw [List.nil_append] at hB;refine ag (rs [2] K ?_);refine zB (zQ ?_);refine ⟨rfl,_,zg rfl rfl,E0.trans hE,some ⟨_,0,none⟩,c,?_,by omega,.inr ⟨_,0,_,rfl,hB,by simp;omega,fun i hi => ?_⟩,hl,fun _=>⟨_,rfl,E0.size⟩⟩
     · show Value.slice _ (0+l.length) c=_;rw [Nat.zero_add]
     · rw [Nat.zero_add,zDH (by omega)];exact (hcn i hi).ext hE
theorem zCB (hp:zO w v l):Ret prog 34 #[v] w (fun r w'=>IsOwn w.heap.size w' r (trim l)):=by
 obtain ⟨p,cap,rfl,hc,hP,hl⟩:=hp;have E0:Ext w w:=Ext.refl w;refine J0 23 func34 rfl (rj fun K=>ag (rm [0] K ?_));refine zA (zD (ze (X:=Nat) (fun n ρ w'=>Keep ρ [(0,.slice p n cap)]∧n≤l.length∧Ext w w'∧trim (l.take n)=trim l) (fun n=>n) l.length ⟨(kp rfl),Nat.le_refl _,E0,by rw [List.take_length]⟩ ?_));clear E0;rintro n ρ1 w1 ⟨hk,hn,E0,ht⟩;refine wpe_k _ hk ?_;clear hk ρ1;refine zA (zA ?_);rcases n with _ | m
 · skip
   refine rI fun K=>K1 (zG zAB rfl (K9 false rfl (decide_eq_false (by omega)) (mv (K3 (K3 (K3 (K3 (K3 (K3 (K3 (K3 (pk rfl (rl K ?_)))))))))))));refine zN (K5 [0,7,8,9,10,11,12,13,14,15] ?_);refine wcf rfl (zV (zv (zi (zL (zN (zA ?_))))));have htt:trim l=l.take 0:=by rw [← ht];rfl
   refine K6 fun K=>mv ?_;have hlen:(trim l).length=0:=by rw [htt];simp<;>omega
   have hsz:=E0.size;refine K1 (j0 E0 hb68 (zGV (l:=trim l) ⟨p,cap,by rw [hlen];rfl,by omega,by rw [htt];exact (hP.ext E0).take _,by omega⟩) fun v3 w3 E0 hr => ?_);refine ag (rs [0,2] K ?_);exact zB (en rfl E0 (hr.sz hsz))
 · have hP1:=hP.ext E0;refine rI fun K=>K1 (zG zAB rfl (K9 true rfl (decide_eq_true (by omega)) (mv (K7 (K7 (K2 (zG zAB rfl (K2 (zAM (b:=1) m rfl rfl rfl (by omega) ?_)))))))));have hmin:(l.take (m+1)).length=m+1:=by simp;omega
   refine K2 (zAL (l:=l.take (m+1)) (cap:=cap) (ix:=m) (hP1.take (m+1)) (by rw [hmin];rfl) rfl (by omega) ?_);refine K2 (zAS (hP1.take (m+1)) (i:=m) (by omega) rfl fun v12 hN12 => ?_);rw [show (l.take (m+1)).getD m 0=l.getD m 0 from by simp] at hN12;refine K2 (zH hb19 (CallK.of_ret (zAg hN12) fun v13 w2 hE hr => ?_) rfl);subst hr;replace E0:=E0.trans hE;clear hE hN12 hP1;refine K2 (zF rfl rfl rfl (pk rfl (rs [0,7,8,9,10,11,12,13,14,15] K ?_)));refine K0 rfl ?_ ?_<;>intro hc
   · have hz:l.getD m 0=0:=zFi.1 (eq_of_beq hc);clear hc;exact sk (zD (rI fun K=>mv (K1 (zG zAB rfl (K1 (zAM (b:=1) (m) rfl rfl rfl (by omega) (K1 (zBq zAB rfl rfl (by omega) (by omega) (ag (rl K (zS (zP (⟨rfl,m,⟨(kp rfl),by omega,E0,(trim_zero (by omega) hz).symm.trans ht⟩,by omega⟩)))))))))))))
   · have hz:l.getD m 0≠0:=fun e=>beq_eq_false_iff_ne.1 hc (zFi.2 e);clear hc;have htt:trim l=l.take (m+1):=by rw [← ht,trim_top (by omega) hz]
     refine zV (zv (zi (zL (zN (rj fun K=>mv ?_)))));have hlen:(trim l).length=m+1:=by rw [htt];simp<;>omega
     have hsz:=E0.size;refine K1 (j0 E0 hb68 (zGV (l:=trim l) ⟨p,cap,by rw [hlen];rfl,by omega,by rw [htt];exact (hP.ext E0).take _,by omega⟩) fun v3 w3 E0 hr => ?_);refine ag (rm [0,2] K ?_);exact zB (en rfl E0 (hr.sz hsz))
theorem zCo (hp:zO w v l):Ret prog 18 #[v] w (fun r _=>r = .int .i64 (((trim l).length:Int)-1)):=by
 refine J0 7 func18 rfl (rj fun K=>ag (rm [0] K ?_));refine rJ fun K=>K1 (j0 E0 hb34 (zCB hp) fun v1_1 w1 E0 hr => ?_);obtain ⟨p,cap,rfl,_,_,hl,_⟩:=hr;refine K1 (zG zAB rfl (K1 (zF (v := .int .i64 (((trim l).length:Int)-1)) rfl rfl (congrArg (fun z=>some (Value.int .i64 z)) (zj (by omega) (by omega))) (ag (rm [2] K ?_)))));exact zB (en rfl E0 rfl)
end Go.Proofs.YtjiendlfobjanaaGreatDoor
namespace Go.Proofs.YtjiendlfobjanaaGreatDoor
open Go Go.RowKit Go.Proofs Tryz
variable {A l:List Rat} {af:Array Edge} {b b2 c cap i ix k len o:Nat} {c2 v:Value} {cs:List Value} {g:Option (Nat×Bool)} {pos:String} {r:Option Nat} {ty:TypeId} {w w' w0:World} {x y z:Rat} {α β:Type} {σ:Operand→Value}
theorem zFW (h:radd x y=some z):rroom x y=true∧z=x+y:=by
 unfold radd at h;split at h
 · rename_i hr;cases h;exact ⟨hr,rfl⟩
 · cases h
theorem zMN (h:rsub x y=some z):rroom x y=true∧z=x-y:=by
 unfold rsub at h;split at h
 · rename_i hr;cases h;exact ⟨hr,rfl⟩
 · cases h
theorem zDI (h:rmul x y=some z):rroom x y=true∧z=x*y:=by
 unfold rmul at h;split at h
 · rename_i hr;cases h;exact ⟨hr,rfl⟩
 · cases h
theorem zDC (h:rdiv x y=some z):rroom x y=true∧z=x/y:=by
 unfold rdiv at h;split at h
 · rename_i hr;cases h;exact ⟨hr,rfl⟩
 · cases h
theorem bind_some {o:Option α} {f:α→Option β} {b:β} (h:o.bind f=some b):∃ a,o=some a∧f a=some b:=by
 cases o with
 | none=>cases h
 | some a=>exact ⟨a,rfl,h⟩
theorem map_some {o:Option α} {f:α→β} {b:β} (h:o.map f=some b):∃ a,o=some a∧f a=b:=by
 cases o with
 | none=>cases h
 | some a=>exact ⟨a,rfl,Option.some.inj h⟩
theorem zEK (h:i<l.length):l.drop i=l.getD i 0 :: l.drop (i+1):=by
 rw [List.drop_eq_getElem_cons h];simp [h]
theorem NumAt.extS {S:List Nat} {q:Rat} (h:NumAt b q w) (hx:ExtS S w w') (hb:b ∉ S) (hS:NoW S w):NumAt b q w':=by
 obtain ⟨cs,h1,h2,h3⟩:=h;exact ⟨cs,h1.extS hx hb,h2,h3.extS hx hS⟩
theorem NumAt.upd {q:Rat} (h:NumAt b q w) (hu:Upd c w w') (hc:Blk w c 37 cs) (hne:b≠c):NumAt b q w':=by
 obtain ⟨cs',h1,h2,h3⟩:=h;exact ⟨cs',h1.upd hu hne,h2,h3.upd hu hc (by decide)⟩
theorem NumAt.lt {q:Rat} (h:NumAt b q w):b<w.heap.size:=by obtain ⟨cs,h1,_⟩:=h;exact h1.lt
theorem noWP (h:PBlk w b l):NoW [b] w:=by
 obtain ⟨cs,h1,_⟩:=h;exact noW1 h1 (by decide)
theorem PRd.extS {S:List Nat} {p:Option Addr} (h:PRd w p l) (hx:ExtS S w w') (hp:∀ a,p=some a→l≠[]→a.block ∉ S) (hS:NoW S w):PRd w' p l:=by
 rcases h with h | ⟨c,o,cs',h1,h2,h3,h4⟩
 · exact .inl h
 · by_cases h0:l=[]
   · exact .inl h0
   · exact .inr ⟨c,o,cs',h1,h2.extS hx (hp _ h1 h0),h3,fun i hi=>(h4 i hi).extS hx hS⟩
theorem zHs {O O':List Rat} (hB:PBlk w0 b O) :
 (⟨i,b,fun w=>PBlk w b O,fun w=>PBlk w b O'⟩:StoreSpec).blk<w0.heap.size∧(⟨i,b,fun w=>PBlk w b O,fun w=>PBlk w b O'⟩:StoreSpec).pre w0∧∀ w w',ExtS [b] w0 w→ExtS [b] w w'→w'.heap[(⟨i,b,fun w=>PBlk w b O,fun w=>PBlk w b O'⟩:StoreSpec).blk]? = w.heap[(⟨i,b,fun w=>PBlk w b O,fun w=>PBlk w b O'⟩:StoreSpec).blk]? →
  ((⟨i,b,fun w=>PBlk w b O,fun w=>PBlk w b O'⟩:StoreSpec).pre w→(⟨i,b,fun w=>PBlk w b O,fun w=>PBlk w b O'⟩:StoreSpec).pre w')∧((⟨i,b,fun w=>PBlk w b O,fun w=>PBlk w b O'⟩:StoreSpec).post w→(⟨i,b,fun w=>PBlk w b O,fun w=>PBlk w b O'⟩:StoreSpec).post w'):=by
 have key:∀ (w w':World) (L:List Rat),ExtS [b] w w'→w'.heap[b]? = w.heap[b]?→PBlk w b L→PBlk w' b L:=fun w w' L hx he h=>by
  obtain ⟨cs,h1,h2,h3⟩:=h;exact ⟨cs,by show w'.heap[b]? = _;rw [he];exact h1,h2,fun i hi=>(h3 i hi).extS hx (noW1 h1 (by decide))⟩
 exact ⟨hB.lt,hB,fun w w' _ hx he=>⟨key w w' O hx he,key w w' O' hx he⟩⟩
section laws
variable {K:Value→World→Prop} {d:Option Tmp}
theorem zDQ {x:Operand} (hx:σ x = .pointer (some ⟨b,o,none⟩)) (ho:o=3*k) (hB:PBlk w b l) (hk:k<l.length) (hc:∀ v,IsNum w v (l.getD k 0)→K v w):Runs prog r ⟨d,.load 37 x,ty,pos,af,g⟩ σ w K:=by
 subst ho;obtain ⟨cs,h1,h2,h3⟩:=hB;exact zBB hx h1 (by omega) (h3 k hk) hc
theorem zBj {x i:Operand} {k:IntKind} (hx:σ x = .slice (some ⟨b,0,none⟩) len cap) (hi:σ i = .int k (ix:Int)) (h1:ix<len) (hk:K (.pointer (some ⟨b,3*ix,none⟩)) w):Runs prog r ⟨d,.indexAddr 25 x i,ty,pos,af,g⟩ σ w K:=by
 refine zE zAB hx hi (by omega) (by omega) ?_;rw [show 0+((ix:Nat):Int).toNat*3=3*ix from by omega];exact hk
end laws
def AccP (sz:Nat) (w:World) (v:Value) (A:List Rat):Prop :=
 ∃ p c,v = .slice p A.length c∧A.length≤c∧((A=[]∧p=none∧c=0)∨∃ b cs,p=some ⟨b,0,none⟩∧sz≤b∧Blk w b 37 cs∧cs.length=3*c∧∀ i,i<A.length→IsNum w (.agg ((cs.drop (3*i)).take 3).toArray) (A.getD i 0))
theorem AccP.nil {sz:Nat}:AccP sz w (.slice none 0 0) []:=⟨none,0,rfl,Nat.le_refl _,.inl ⟨rfl,rfl,rfl⟩⟩
theorem AccP.ext {sz:Nat} (h:AccP sz w v A) (hx:Ext w w'):AccP sz w' v A:=by
 obtain ⟨p,c,h1,h2,h3⟩:=h;refine ⟨p,c,h1,h2,?_⟩;rcases h3 with h3 | ⟨b,cs,e1,e2,e3,e4,e5⟩
 · exact .inl h3
 · exact .inr ⟨b,cs,e1,e2,e3.ext hx,e4,fun i hi=>(e5 i hi).ext hx⟩
theorem AccP.own {sz:Nat} (h:AccP sz w v A) (hl:A.length≤4096):IsOwn sz w v A:=by
 obtain ⟨p,c,h1,h2,h3⟩:=h;rcases h3 with ⟨e1,e2,e3⟩ | ⟨b,cs,e1,e2,e3,e4,e5⟩
 · exact ⟨p,c,h1,h2,.inl e1,hl,fun hn=>absurd e1 hn⟩
 · exact ⟨p,c,h1,h2,.inr ⟨b,0,cs,e1,e3,by omega,fun i hi=>by rw [Nat.zero_add];exact e5 i hi⟩,hl,fun _=>⟨b,e1,e2⟩⟩
theorem AccP.upd {sz:Nat} (h:AccP sz w v A) (hu:Upd c w w') (hc:Blk w c 37 cs) (hne:∀ b k,v = .slice (some ⟨b,0,none⟩) A.length k→b≠c):AccP sz w' v A:=by
 obtain ⟨p,k,h1,h2,h3⟩:=h;refine ⟨p,k,h1,h2,?_⟩;rcases h3 with h3 | ⟨b,cs',e1,e2,e3,e4,e5⟩
 · exact .inl h3
 · refine .inr ⟨b,cs',e1,e2,e3.upd hu (hne b k (by rw [h1,e1])),e4,fun i hi=>(e5 i hi).upd hu hc (by decide)⟩
theorem AccP.new {sz:Nat} (h:AccP sz w v A) (hc:w.heap.size≤c):∀ b k,v = .slice (some ⟨b,0,none⟩) A.length k→b≠c:=fun b k e=>by
 obtain ⟨p,k',h1,h2,h3⟩:=h;rcases h3 with ⟨e1,e2,e3⟩ | ⟨b',cs',e1,e2,e3,e4,e5⟩
 · rw [h1,e2] at e;cases e
 · rw [h1,e1] at e;cases e;have:=e3.lt;omega
theorem zDY {q:Rat} (h:i<A.length):(A++[q]).getD i 0=A.getD i 0:=by
 simp [List.getElem?_append_left h]
theorem zDX {q:Rat}:(A++[q]).getD A.length 0=q:=by simp
def AppX (sz:Nat) (w w':World):Prop:=Ext w w'∨∃ b cs,sz≤b∧Blk w b 37 cs∧Upd b w w'
theorem AppX.ext {sz:Nat} (h:AppX sz w w') (hs:w0.heap.size≤sz) (hE:Ext w0 w):Ext w0 w':=by
 rcases h with h | ⟨b,cs,h1,h2,h3⟩
 · exact hE.trans h
 · exact hE.upd h3 (by omega)
theorem AppX.num {sz:Nat} {q:Rat} (h:AppX sz w w') (hc:c<sz) (hN:NumAt c q w):NumAt c q w':=by
 rcases h with h | ⟨b,cs,h1,h2,h3⟩
 · exact hN.ext h
 · exact hN.upd h3 h2 (by omega)
theorem zFI {K:Value→World→Prop} {d:Option Tmp} {x y:Operand} {sz:Nat} {q:Rat} {c1 c3:Value}
 (hx:AccP sz w (σ x) A) (hy:σ y = .slice (some ⟨b2,0,none⟩) 1 1) (hB2:Blk w b2 37 [c1,c2,c3]) (hq:IsNum w (.agg #[c1,c2,c3]) q) (hA:A.length<4096) (hsz:sz≤w.heap.size)
 (hk:∀ v w',AppX sz w w'→AccP sz w' v (A++[q])→K v w') :
 Runs prog r ⟨d,.call { callee := .builtin .append,args := #[x,y],argTypes := #[25,25] },ty,pos,af,g⟩ σ w K:=by
 obtain ⟨p,c,h1,h2,h3⟩:=hx;have hq0:=hq;have hcells:Cells w (some ⟨b2,0,none⟩) 37 [c1,c2,c3]:=Cells.blk hB2;have hok:[c1,c2,c3].all zDB=true:=by
  obtain ⟨n,dd,he,hn,hd⟩:=hq;obtain ⟨p1,ds1,k1,rfl,-⟩:=hn;obtain ⟨p2,ds2,k2,rfl,-⟩:=hd;cases he;rfl
 have fin:∀ (w':World) (b c':Nat) (cs':List Value),sz≤b→A.length+1≤c'→Blk w' b 37 cs'→cs'.length=3*c'→(∀ i,i<A.length→IsNum w' (.agg ((cs'.drop (3*i)).take 3).toArray) (A.getD i 0))→((cs'.drop (3*A.length)).take 3=[c1,c2,c3])→IsNum w' (.agg #[c1,c2,c3]) q →
  AccP sz w' (.slice (some ⟨b,0,none⟩) (A.length+1) c') (A++[q]):=fun w' b c' cs' g1 g2 g3 g4 g5 g6 g7=>by
  refine ⟨_,c',by simp,by simpa using g2,.inr ⟨b,cs',rfl,g1,g3,g4,fun i hi => ?_⟩⟩;by_cases hi':i<A.length
  · rw [zDY hi'];exact g5 i hi'
  · have:i=A.length:=by simp at hi;omega
    subst this;rw [g6,zDX];exact g7
 by_cases hc:A.length+1≤c
 · -- within the capacity
   rcases h3 with ⟨e1,e2,e3⟩ | ⟨b,cs,e1,e2,e3,e4,e5⟩
   · omega
   · subst e1;refine zBC (n:=3) zAb zAb zEX h1 hy e3 hcells rfl hc (by omega) hok fun w' hU hN=>hk _ w' ?_ ?_
     · exact .inr ⟨b,cs,e2,e3,hU⟩
     · rw [Nat.zero_add,show A.length*3=3*A.length from by omega] at hN;refine fin w' b c _ e2 hc hN (by rw [zAz];exact e4) (fun i hi => ?_) ?_ (hq0.upd hU e3 (by decide))
       · rw [zBM (by omega),if_neg (by omega)];exact (e5 i hi).upd hU e3 (by decide)
       · rw [zBM (by omega),if_pos rfl]
 · have hnew:=zAi (A.length+1) c;have hold:∃ old,Cells w p 37 old∧old.length=A.length*3∧∀ i,i<A.length→IsNum w (.agg ((old.drop (3*i)).take 3).toArray) (A.getD i 0):=by
    rcases h3 with ⟨e1,e2,e3⟩ | ⟨b,cs,e1,e2,e3,e4,e5⟩
    · subst e1;exact ⟨[],.inl rfl,rfl,fun i hi=>by simp at hi⟩
    · refine ⟨cs.take (A.length*3),.inr ⟨b,0,cs,e1,e3,by simp⟩,by simp;omega,fun i hi => ?_⟩;have:=e5 i hi;rwa [show ((cs.take (A.length*3)).drop (3*i)).take 3=(cs.drop (3*i)).take 3 from by
       rw [List.drop_take,List.take_take,Nat.min_eq_left (by omega)]]
   obtain ⟨old,o1,o2,o3⟩:=hold;refine zAW zAb zAb zEX rfl (by decide) h1 hy o1 o2 hcells rfl (by omega) (by omega) fun w' rest c' g1 hE hB g2 _=>hk _ w' ?_ ?_
   · exact .inl hE
   · have hrl:rest.length=(c'-(A.length+1))*3:=by rw [g2];simp [Builtin.zeroCells,Value.cells]
     refine fin w' _ c' _ hsz g1 hB (by simp [o2,hrl];omega) (fun i hi => ?_) ?_ (hq0.ext hE)
     · rw [List.append_assoc,zDH (by omega)];exact (o3 i hi).ext hE
     · rw [List.append_assoc,List.drop_append_of_le_length (by omega),List.drop_of_length_le (by omega)];simp
variable {N n:Nat} {P:Program} {Q:Post} {T:TypeId} {args:Array Value} {ds:List Nat} {f:FuncId} {fn:Func} {ts:Array TypeId} {Φ:Value→World→Prop} {δ:List Deferred} {ρ:Env}
structure OthX (l:Nat) (w w':World):Prop where
 os:w'.os=w.os
 tape:w'.tape=w.tape
 output:w'.output=w.output
 size:w'.heap.size=w.heap.size
 block:∀ k,k≠l→w'.heap[k]? = w.heap[k]?
 no:∀ T cs,¬ Blk w l T cs
theorem OthX.upd {l:Nat} (h:OthX l w w'):Upd l w w':=⟨h.os,h.tape,h.output,h.size,h.block,fun T cs hb=>absurd hb (h.no T cs)⟩
theorem Blk.oth {l:Nat} (h:Blk w b T cs) (hx:OthX l w w'):Blk w' b T cs :=
 h.upd hx.upd fun e=>hx.no T cs (e ▸ h)
theorem Ext.oth {l:Nat} (h:Ext w0 w) (hx:OthX l w w') (hl:w0.heap.size≤l):Ext w0 w':=h.upd hx.upd hl
theorem zEN {l:Nat} {o:Obj} (o':Obj) (h:w.heap[l]? = some o) (ho:o.isCells=false):OthX l w (w.putObj l o') :=
 ⟨rfl,rfl,rfl,by simp [World.putObj],fun k hk=>World.putObj_heap_other hk,fun T cs hb=>by
  unfold Blk at hb;rw [h] at hb;cases hb;cases ho⟩
def BlkLe (w w':World):Prop:=∀ b T cs,Blk w b T cs→Blk w' b T cs
theorem OthX.le {l:Nat} (h:OthX l w w'):BlkLe w w':=fun _ _ _ hb=>hb.oth h
theorem Rd.le {p:Option Addr} (h:Rd w p ds) (hx:BlkLe w w'):Rd w' p ds:=fun i hi=>by
 obtain ⟨b,o,cs,h1,h2,h3⟩:=h i hi;exact ⟨b,o,cs,h1,hx _ _ _ h2,h3⟩
theorem IsW.le (h:IsW w v n) (hx:BlkLe w w'):IsW w' v n:=by
 obtain ⟨p,ds,cap,h1,h2,h3,h4,h5⟩:=h;exact ⟨p,ds,cap,h1,h2,h3.le hx,h4,h5⟩
theorem IsNum.le {q:Rat} (h:IsNum w v q) (hx:BlkLe w w'):IsNum w' v q:=by
 obtain ⟨n,d,hv,h1,h2⟩:=h;exact ⟨n,d,hv,h1.le hx,h2.le hx⟩
theorem PRd.le {p:Option Addr} (h:PRd w p l) (hx:BlkLe w w'):PRd w' p l:=by
 rcases h with h | ⟨b,o,cs,h1,h2,h3,h4⟩
 · exact .inl h
 · exact .inr ⟨b,o,cs,h1,hx _ _ _ h2,h3,fun i hi=>(h4 i hi).le hx⟩
theorem NumAt.le {q:Rat} (h:NumAt b q w) (hx:BlkLe w w'):NumAt b q w':=by
 obtain ⟨cs,h1,h2,h3⟩:=h;exact ⟨cs,hx _ _ _ h1,h2,h3.le hx⟩
theorem zO.le (h:zO w v l) (hx:BlkLe w w'):zO w' v l:=by
 obtain ⟨p,c,h1,h2,h3,h4⟩:=h;exact ⟨p,c,h1,h2,h3.le hx,h4⟩
def NC (w w':World):Prop:=∀ (k:Nat) (o:Obj),w.heap[k]? = some o→o.isCells=false→w'.heap[k]? = some o
theorem NC.refl (w:World):NC w w:=fun _ _ h _=>h
theorem NC.trans {a b c:World} (h:NC a b) (k:NC b c):NC a c:=fun i o hi ho=>k i o (h i o hi ho) ho
theorem NC.ext (h:Ext w w'):NC w w':=fun _ _ hk _=>h.heap hk
theorem NC.upd (h:Upd b w w') (hb:Blk w b T cs):NC w w':=fun k o hk ho=>by
 by_cases e:k=b
 · subst e;unfold Blk at hb;rw [hb] at hk;cases hk;cases ho
 · rw [h.block k e];exact hk
theorem NC.extS (h:ExtS [b] w w') (hb:Blk w b T cs):NC w w':=fun k o hk ho=>by
 by_cases e:k=b
 · subst e;unfold Blk at hb;rw [hb] at hk;cases hk;cases ho
 · rw [h.block k (Array.getElem?_eq_some_iff.1 hk).1 (by simpa using e)];exact hk
def zJb (P:Program) (l:Nat) (args:Array Value) (w:World) (K:Value→World→Prop):Prop :=
 ∃ fn tmps assign body,(Instr.yield l args).run P w = .ok (.round l fn tmps assign body) w∧RoundIn (W none) 0 P l fn tmps assign body w (fun e w'=>∃ v,e = .returned v∧K v w')
theorem zJa {K:Value→World→Prop} {d:Option Tmp} {x:Operand} {l:Nat} {args:Array Operand} 
 (hx:σ x = .func (.yield l) #[] #[]) (hy:zJb P l (args.toList.map σ).toArray w K) :
 Runs P none ⟨d,.call { callee := .value x,args:=args,argTypes:=ts },ty,pos,af,g⟩ σ w K:=by
 obtain ⟨fn,tmps,assign,body,h1,h2⟩:=hy;have ha:(args.toList.map σ).toArray=args.map σ:=amap _ _;rw [ha] at h1;unfold Runs;rw [zCQ (fun _ e=>by cases e)];have:(execOp σ ⟨d,.call { callee := .value x,args:=args,argTypes:=ts },ty,pos,af,g⟩).run P w = .ok (.round l fn tmps assign body) w:=by
  simp only [execOp,resolve,hx,Deferred.ofValue];simp [invoke,h1]
 rw [this];exact h2
def exts (ρ:Env):List (Tmp×Value)→Env
 | []=>ρ
 | (p,v) :: l=>exts ((p,v) :: ρ) l
theorem zPO {N:Nat} {δ:List Deferred}:∀ (l:List (Tmp×Value)) (ρ:Env) (tmps:Array Value),Fr N { tmps:=tmps,defers:=δ } ρ→(∀ x∈l,x.1<N) →
 Fr N { tmps:=l.foldl (fun t (x:Tmp×Value)=>t.setIfInBounds x.1 x.2) tmps,defers:=δ } (exts ρ l)
 | [],ρ,tmps,h,_=>h
 | (p,v) :: l,ρ,tmps,h,hp=>by
  have h1:Fr N { tmps:=tmps.setIfInBounds p v,defers:=δ } ((p,v) :: ρ):=h.put (some p) v (fun d hd=>by cases hd;exact hp (p,v) (by simp));exact zPO l _ _ h1 fun x hx=>hp x (by simp [hx])
def mark (D:Nat):Deferred:={ target := .collected D,args := #[] }
theorem zLr {g:Operand} {ps:Array Tmp} {assign body:Code} {cap:Array Value}
 (hgd:(match g with | .tmp t=>(dom ρ).contains t | _=>true)=true) (hg:look ρ g = .func (.func f) #[] cap) (hf:zBG P f) (hps:ps.toList.all (fun p=>decide (p<N))=true)
 (I:Nat→World→Prop) (Kp:World→World→Prop) (n:Nat) (enc:Nat→Array Value→World→Prop)
 (hsz:∀ i args w,enc i args w→args.size=ps.size)
 (h0:∀ w1,Ext w w1→I 0 w1)
 (hIe:∀ i w1 w2,I i w1→Ext w1 w2→I i w2)
 (hIo:∀ i l w1 w2,w.heap.size≤l→I i w1→OthX l w1 w2→I i w2)
 (hseq:∀ (l:Nat) (J:Nat→World→Prop),(∀ i w1 w2,J i w1→Ext w1 w2→J i w2)→(∀ i w1,J i w1→I i w1) →
  (∀ i,i<n→∀ args w1,J i w1→enc i args w1→zJb P l args w1 (fun u w2=>u = .bool true∧J (i+1) w2∧Kp w1 w2)) →
  ∀ w1,Ext w w1→J 0 w1→CallK P f (#[.func (.yield l) #[] #[]]++cap) w1 (fun _ w2=>J n w2))
 (hround:∀ (l i:Nat) (args:Array Value) (w1:World),w.heap.size≤l→i<n→I i w1→enc i args w1 →
  WPE P (some l) N assign (fun e ρ' δ' w2=>e = .normal∧δ'=[]∧NC w1 w2 ∧
   ∀ w3,OthX l w2 w3→WPE P (some l) N body (fun e _ _ w4=>e = .normal∧NC w3 w4∧∀ w5,OthX l w4 w5→I (i+1) w5∧Kp w1 w5) [] ρ' w3) [] (exts ρ (ps.toList.zip args.toList)) w1)
 (hdone:∀ (D:Nat) (w2:World),w.heap.size≤D→I n w2→w2.heap[D]? = some (.deferred (some []))→Q .normal ρ (mark D :: δ) w2) :
 WPE P none N (.rangeFunc g ps assign body) Q δ ρ w:=fun a hfr hd=>by
 refine wpIn_rangeFunc (F:=W none) fun fn hfn => ?_;obtain ⟨rec,hrec⟩:∃ rec:LoopState→Loop,rec=fun st=>{ state:=st,pending:=none,fn,tmps:=a.tmps,params:=ps,assign,body,defers:=w.heap.size }:=⟨_,rfl⟩;obtain ⟨W1,hW1⟩:∃ W1,(w.alloc (.deferred (some []))).alloc (.loop (rec .ready))=W1:=⟨_,rfl⟩;have hL1:W1.heap[w.heap.size+1]? = some (.loop (rec .ready)):=by
  rw [← hW1];have:=World.alloc_heap_new (w.alloc (.deferred (some []))) (.loop (rec .ready));rwa [World.size_alloc] at this
 have hK1:W1.heap[w.heap.size]? = some (.deferred (some [])):=by
  rw [← hW1];exact (Below.heap_alloc _ _ _ (by simp)).trans (World.alloc_heap_new w _)
 have hE1:Ext w W1:=by
  rw [← hW1];exact (Ext.push (w:=w) (.deferred (some []))).trans (Ext.push (w:=w.alloc (.deferred (some []))) (.loop (rec .ready)))
 have hgv:a.eval g = .func (.func f) #[] cap:=by
  rw [hfr.eval g (fun t e=>by subst e;simpa using hgd)];exact hg
 refine ⟨w.heap.size+1,[mark w.heap.size],W1,{ target := .fn (.func f) cap,args := #[.func (.yield (w.heap.size+1)) #[] #[]] },W1,f,#[.func (.yield (w.heap.size+1)) #[] #[]]++cap,W1,?_,?_,?_,?_,?_,?_⟩
 · rw [← hW1,hrec];exact run_enterLoop_outer fn a.tmps ps assign body
 · simp only [resolve,hgv];simp [go_sem]
 · intro f' _;trivial
 · simp [invoke,go_sem,hf (#[.func (.yield (w.heap.size+1)) #[] #[]]++cap) W1]
 · intro h;cases h
 · refine zPg (h:=Calls.mono (hseq (w.heap.size+1) (fun i W=>I i W∧W.heap[w.heap.size+1]? = some (.loop (rec .ready))∧W.heap[w.heap.size]? = some (.deferred (some [])))
    (fun i w1 w2 h hE=>⟨hIe i w1 w2 h.1 hE,hE.heap h.2.1,hE.heap h.2.2⟩) (fun i w1 h=>h.1) ?_ W1 hE1 ⟨h0 W1 hE1,hL1,hK1⟩) ?_)
   · rintro i hi args w1 ⟨hI,hl,hk⟩ he;have hlt:w.heap.size+1<w1.heap.size:=(Array.getElem?_eq_some_iff.1 hl).1;have hy:=run_yield (P:=P) (args:=args) hl (by rw [hrec];exact hsz i args w1 he);rw [hrec] at hy;refine ⟨fn,_,assign,body,hy,roundIn_of_wpIn hfn ?_⟩;have hfr2:=zPO (N:=N) (δ:=[]) (ps.toList.zip args.toList) ρ a.tmps ⟨hfr.size,hfr.at_⟩ (fun x hx=>by
      have:=(List.of_mem_zip hx).1;simpa using List.all_eq_true.1 hps _ this)
     have hzip:(ps.zip args).foldl (fun t (x:Tmp×Value)=>t.setIfInBounds x.1 x.2) a.tmps=(ps.toList.zip args.toList).foldl (fun t (x:Tmp×Value)=>t.setIfInBounds x.1 x.2) a.tmps:=by
      rw [← Array.foldl_toList];simp
     rw [← hzip] at hfr2;refine wpIn_mono (hround (w.heap.size+1) i args w1 (by omega) hi hI he _ hfr2 rfl) ?_;rintro e a2 w2 ⟨ρ2,hf2,rfl,hd2,hkeep,hbody⟩;have hl2:=hkeep _ _ hl rfl;have hk2:=hkeep _ _ hk rfl;refine ⟨_,run_beginRound hl2 (by rw [hrec]),?_⟩;have hlt2:=(Array.getElem?_eq_some_iff.1 hl2).1;have ho2:=zEN (.loop { rec .ready with state := .busy }) hl2 rfl;have hl3:(w2.putObj (w.heap.size+1) (.loop { rec .ready with state := .busy })).heap[w.heap.size+1]? = some (.loop { rec .ready with state := .busy }):=World.putObj_heap_same hlt2;have hk3:(w2.putObj (w.heap.size+1) (.loop { rec .ready with state := .busy })).heap[w.heap.size]? = some (.deferred (some [])):=(World.putObj_heap_other (by omega)).trans hk2;refine wpIn_mono (hbody _ ho2 a2 hf2 hd2) ?_;rintro e a4 w4 ⟨ρ4,hf4,rfl,hkeep4,hfin⟩;have hl4:=hkeep4 _ _ hl3 rfl;have hk4:=hkeep4 _ _ hk3 rfl;have hlt4:=(Array.getElem?_eq_some_iff.1 hl4).1;have hr4:=run_endRound (P:=P) none hl4;have ho4:=zEN (.loop (rec .ready)) hl4 rfl;obtain ⟨g1,g2⟩:=hfin _ ho4;refine ⟨_,_,hr4,_,rfl,rfl,⟨?_,?_,?_⟩,?_⟩
     · rw [hrec] at g1 ⊢;exact g1
     · rw [hrec];exact World.putObj_heap_same hlt4
     · exact (World.putObj_heap_other (by omega)).trans hk4
     · rw [hrec] at g2 ⊢;exact g2
   · rintro e w2 ⟨v,rfl,hI,hl,hk⟩;have hlt:w.heap.size+1<w2.heap.size:=(Array.getElem?_eq_some_iff.1 hl).1;refine ⟨none,_,by have:=run_endLoop (P:=P) hl (by rw [hrec];simp);rw [hrec] at this;exact this,?_⟩;refine ⟨ρ,⟨hfr.size,hfr.at_⟩,?_⟩;show Q .normal ρ ([mark w.heap.size]++a.defers) _;rw [hd];refine hdone w.heap.size _ (Nat.le_refl _) ?_ ((World.putObj_heap_other (by omega)).trans hk);exact hIo n (w.heap.size+1) _ _ (by omega) hI (zEN _ hl rfl)
theorem zJA {c:Code} (N:Nat)
 (hf:P.funcs[f]? = some fn) (hb:fn.body=some c) (hN:fn.ntmps=N) (hargs:args.size≤N)
 (h:WPE P none N c (funQ fun ρ δ w'=>∃ D v,δ=[mark D]∧w'.heap[D]? = some (.deferred (some []))∧∀ w2,OthX D w' w2→Gives P fn N ρ w2 v∧Ext w w2∧Φ v w2) [] (args0 0 args.toList) w):Ret P f args w Φ:=by
 subst hN;refine callsW' (r:=none) (n:=0) (callsIn_of_wp_marks hf hb trivial ?_);refine wpIn_mono (h _ (zKf fn args hargs) rfl) ?_
 have key:∀ (a:Act) (w':World) (ρ:Env),Fr fn.ntmps a ρ→(∃ D v,a.defers=[mark D]∧w'.heap[D]? = some (.deferred (some []))∧∀ w2,OthX D w' w2→Gives P fn fn.ntmps ρ w2 v∧Ext w w2∧Φ v w2) →
  LeavesInM (W none) 0 P fn a.tmps (fun e w'=>∃ v,e = .returned v∧Ext w w'∧Φ v w') a.defers .returning w':=by
  rintro a w' ρ hfr ⟨D,v,hd,hD,hfin⟩;rw [hd];refine ⟨by simp,.inl ⟨D,_,rfl,run_takeDeferred hD,?_⟩⟩;obtain ⟨g1,g2,g3⟩:=hfin _ (zEN (.deferred none) hD rfl);exact ⟨v,g1 a hfr,v,rfl,g2,g3⟩
 rintro e a w' ⟨ρ,hfr,hq⟩;cases e with
 | normal=>exact key a w' ρ hfr hq
 | ret=>exact key a w' ρ hfr hq
 | _=>exact hq.elim
end Go.Proofs.YtjiendlfobjanaaGreatDoor
namespace Go.Proofs.YtjiendlfobjanaaGreatDoor
open Go Go.RowKit Go.Proofs Tryz
set_option maxRecDepth 10000
set_option maxHeartbeats 2000000
attribute [local irreducible] Runs WPE CallK Ret
variable {u v:Value} {w:World} {x:Rat}
theorem zJG {p q s:List Rat} (hp:zO w u p) (hq:zO w v q) (h:padd p q=some s):Ret prog 149 #[u,v] w (fun r w'=>IsOwn w.heap.size w' r s):=by
 obtain ⟨pp,pc,rfl,hpc,hpP,hpl⟩:=hp;obtain ⟨qp,qc,rfl,hqc,hqP,hql⟩:=hq;have E0:Ext w w:=Ext.refl w;refine J0 36 func149 rfl (rj fun K=>ag (rm [0,1] K ?_));refine zBO (fun ρ w'=>∃ (ap bp:Option Addr) (P Q:List Rat) (ac bc:Nat) (R:List Rat),Keep ρ [(0,.slice ap P.length ac),(1,.slice bp Q.length bc)]∧Ext w w'∧PRd w' ap P∧PRd w' bp Q∧P.length≤ac∧P.length≤4096∧Q.length≤P.length∧addAt Q 0 P=some R∧trim R=s) ?_ ?_
 · refine rJ fun K=>K1 (zG zAB rfl (mv (K1 (zG zAB rfl (K8 rfl (rm [0,1,12] K ?_))))));refine K0 rfl ?_ ?_<;>intro hc
   · have hl:p.length<q.length:=t_lt hc;clear hc;rw [padd,if_pos hl] at h;obtain ⟨R,hR,hRs⟩:=map_some h;exact rI fun K=>mv (ag (ag (rl K (zP ⟨rfl,qp,pp,q,p,qc,pc,R,(kp rfl),E0,hqP.ext E0,hpP.ext E0,hqc,hql,by omega,hR,hRs⟩))))
   · have hl:¬ p.length<q.length:=by have:=f_lt hc;omega
     clear hc;rw [padd,if_neg hl] at h;obtain ⟨R,hR,hRs⟩:=map_some h;exact zm (zP ⟨rfl,pp,qp,p,q,pc,qc,R,(kp rfl),E0,hpP.ext E0,hqP.ext E0,hpc,hpl,by omega,hR,hRs⟩)
 · clear E0 hpP hqP h;rintro ρ2 w ⟨ap,bp,P,Q,ac,bc,R,hk,hEm,hPP,hQP,hac,hPl,hQl,hR,hRs⟩;have E0:Ext w w:=Ext.refl w;refine wpe_k _ hk ?_;clear hk ρ2;refine rJ fun K=>K1 (j0 E0 hb68 (zGV (l:=P) ⟨ap,ac,rfl,hac,hPP,hPl⟩) fun v3_1 w1 E0 hr => ?_);obtain ⟨op,oc,rfl,hoc,hOP,_,hown⟩:=hr;refine ag (rm [0,1,5] K ?_);refine zA (rJ fun K=>K1 (zG zAB rfl (mv (rm [0,1,5,17,18,19] K ?_))));refine zD (ze (X:=Nat) (fun i ρ w'=>Keep ρ [(5,.slice op P.length oc),(17,.slice bp Q.length bc),(18,.int .i64 (Q.length:Nat)),(19,.int .i64 (i:Nat))]∧i≤Q.length∧Ext w w'∧∃ O,O.length=P.length∧PRd w' op O∧addAt (Q.drop i) i O=some R) (fun i=>Q.length-i) 0 ⟨(kp rfl),Nat.zero_le _,E0,P,rfl,hOP,hR⟩ ?_);clear E0 hOP hR;rintro i ρ1 w1 ⟨hk,hil,E0,O,hOl,hOr,hA⟩;refine wpe_k _ hk ?_;clear hk ρ1;refine rj fun K=>K8 rfl (rm [5,17,18,19,20] K ?_);refine zA ?_;refine K0 rfl ?_ ?_<;>intro hc
   · have hlt:i<Q.length:=t_lt hc;clear hc;have hq1:=hQP.ext E0;rw [zEK hlt] at hA;obtain ⟨s1,hs1,hA⟩:=bind_some hA;obtain ⟨hr1,rfl⟩:=zFW hs1;obtain ⟨ob,rfl,hob⟩:=hown (fun e=>by rw [e] at hQl;simp only [List.length_nil] at hQl;omega);have hOB:=hOr.blk (fun e=>by rw [e] at hOl;simp only [List.length_nil] at hOl;omega);clear hOr;refine sk (zA (zD (rJ fun K=>K1 (zAL (l:=Q) hq1 rfl rfl hlt (K1 (zAS hq1 hlt rfl fun v23 N23 => ?_))))));refine K1 (zd zAa fun bc2 w7 hb hE hBc hs => ?_);have hgc:w.heap.size≤bc2:=by rw [hb];exact E0.size
     have hne:bc2≠ob:=by have:=hOB.lt;omega
     replace E0:=E0.trans hE;replace N23:=N23.ext hE;replace hOB:=hOB.ext hE;clear hE hb hs;refine ag (K1 (zK rfl N23 (Cell3.of hBc rfl) fun _ w9 hU hNA => ?_));replace E0:=E0.upd hU hgc;replace hOB:=hOB.upd hU hBc (Ne.symm hne);clear hU hBc N23;refine rm [5,6,7,17,18,19] K ?_;have hnw:NoW [ob] _:=noWP hOB;refine zDm [⟨9,ob,fun w=>PBlk w ob (O),fun w=>PBlk w ob (O.set i (O.getD i 0+Q.getD i 0))⟩] [([(5,none)],none),([(6,none)],none),([(5,none)],none),([(6,none)],none),([(26,some 1),(27,some 0)],none),([(28,some 0)],none),([(7,none)],none),([(29,some 1),(30,some 0)],none),([(24,some 7),(25,some 6)],none),([(32,some 0),(31,some 1)],none)] mixed (by kernel_rfl) (by kernel_rfl) (by kernel_rfl) (by simp) (by kernel_rfl) (by kernel_rfl) (all1 (zHs hOB)) fun K hK=>dbv rfl (fun σ wx hE hp hk=>zC ⟨Ext.refl _,hk.1⟩) (dbv rfl (fun σ wx hE hp hk=>zC ⟨Ext.refl _,hk.1⟩) (dbv rfl (fun σ wx hE hp hk=>zC ⟨Ext.refl _,hk.1⟩) (dbv rfl (fun σ wx hE hp hk=>zC ⟨Ext.refl _,hk.1⟩) (dbv rfl (fun σ wx hE hp hk=>zBj hk.1 hk.2.1 (by omega) ⟨Ext.refl _,rfl⟩) ?_))));refine dbn (fun v w'=>IsNum w' v (O.getD i 0)) rfl (fun _ _ _ h1 hx h=>h.extS hx (hnw.ext h1)) (fun σ wx hE hp hk=>zDQ hk.1 rfl (hp _ (List.mem_singleton.2 rfl) (by show _<(9:Nat);decide)) (by omega) fun v h=>⟨Ext.refl _,h⟩) ?_
     refine dbn (fun v w'=>IsNum w' v (Q.getD i 0)) rfl (fun _ _ _ h1 hx h=>h.extS hx (hnw.ext h1)) (fun σ wx hE hp hk=>zR hk.1 (hNA.extS hE (nin1 hne) hnw) fun v h=>⟨Ext.refl _,h⟩) (dbn (fun v w'=>IsNum w' v (O.getD i 0+Q.getD i 0)) rfl (fun _ _ _ h1 hx h=>h.extS hx (hnw.ext h1)) (fun σ wx hE hp hk=>zH hb146 (CallK.of_ret (zJg hk.1 hk.2.1 hr1) fun v w2 hX hr=>⟨hX,hr⟩) rfl) (dbv rfl (fun σ wx hE hp hk=>zBj hk.1 hk.2.1 (by omega) ⟨Ext.refl _,rfl⟩) (dbs _ rfl (fun σ wx hE hpre hk=>zBP hk.1 rfl hk.2.1 hpre (by omega) fun v w2 hU hN=>⟨hU,hN⟩) (zLz (hK _ fun wq hS hP => ?_)))));rintro _ rfl _ rfl _ rfl _ rfl _ rfl v29 N29 v30 N30 v31 N31 _ rfl _ _;refine zn ?_;obtain ⟨hN4,-⟩:=hP;replace E0:=E0.updS hS hob;clear hOB hS;have hOB:=hN4;clear hN4;refine zS (zN (K5 [5,17,18,19] ?_));exact K6 fun K=>K8 rfl (mv (rl K (zP (⟨rfl,i+1,⟨⟨rfl,rfl,rfl,rfl,rfl,rfl,rfl,congrArg (Value.int .i64) (zx (by omega)),trivial⟩,by omega,E0,_,by simp [hOl],hOB.rd,hA⟩,by omega⟩))))
   · have hge:=f_lt hc;obtain rfl:i=Q.length:=by omega
     clear hc;rw [List.drop_length] at hA;obtain rfl:O=R:=Option.some.inj hA;refine zV (zv (zi (zL (zN (rj fun K=>mv ?_)))));have hsz:=E0.size;refine K1 (j0 E0 hb34 (zCB (l:=O) ⟨op,oc,by rw [hOl];rfl,by omega,hOr,by omega⟩) fun v9 w9 E0 hr => ?_);rw [hRs] at hr;refine ag (rm [4,5,17,18,19] K ?_);refine zB (zQ ?_);exact ⟨rfl,_,zg rfl rfl,hEm.trans E0,hr.sz (by have:=hEm.size;omega)⟩
theorem info37':(prog.info? 37).map (fun i=>(i.zero,i.size))=some (some (.agg #[.bool false,.slice none 0 0,.slice none 0 0]),3):=by kernel_rfl
theorem zDn {p s:List Rat} (hp:zO w u p) (hx:IsNum w v x) (h:zCA p x=some s):Ret prog 56 #[u,v] w (fun r w'=>IsOwn w.heap.size w' r s):=by
 obtain ⟨pp,pc,rfl,hpc,hpP,hpl⟩:=hp;obtain ⟨L,hL,hLs⟩:=map_some h;have hx0:=hx;obtain ⟨xn,xd,rfl,hxn,hxd⟩:=hx0;have E0:Ext w w:=Ext.refl w;refine J0 23 func56 rfl (rj fun K => ?_);refine K1 (zAA fun b1 w1 hb hE hB1 hs => ?_);have hgb1:w.heap.size≤b1:=by rw [hb];exact E0.size
 replace E0:=E0.trans hE;replace hx:=hx.ext hE;clear hE hs hb;refine ag (rm [0,3] K ?_);refine rj fun K=>ag (rm [0,3,5] K ?_);refine zA (rJ fun K=>K1 (zG zAB rfl (mv (rm [3,5,8,9,10] K ?_))));refine zD ?_;have hNX:NumAt b1 x _:=⟨_,hB1,rfl,hx⟩;refine ze (X:=Nat) (fun i ρ w'=>∃ v5 A,Keep ρ [(3,.pointer (some ⟨b1,0,none⟩)),(5,v5),(8,.slice pp p.length pc),(9,.int .i64 (p.length:Nat)),(10,.int .i64 (i:Nat))]∧i≤p.length∧Ext w w'∧AccP (b1+1) w' v5 A∧A.length=i∧(∃ B,mapO (fun c=>rmul c x) (p.drop i)=some B∧A++B=L)∧NumAt b1 x w') (fun i=>p.length-i) 0 ⟨_,[],(kp rfl),Nat.zero_le _,E0,AccP.nil,rfl,⟨L,hL,rfl⟩,hNX⟩ ?_;clear E0 hNX hB1 hL hx;rintro i ρ1 w1 ⟨v5,A,hk,hil,E0,hA,hAl,⟨B,hB,hAB⟩,hNX⟩;refine wpe_k _ hk ?_;clear hk ρ1;refine rj fun K=>K8 rfl (rm [3,5,8,9,10,11] K ?_);refine zA ?_;refine K0 rfl ?_ ?_<;>intro hc
 · have hlt:i<p.length:=t_lt hc;clear hc;have hq1:=hpP.ext E0;rw [zEK hlt] at hB;obtain ⟨m,hm,hB⟩:=bind_some hB;obtain ⟨hr1,rfl⟩:=zDI hm;obtain ⟨B2,hB2,hB⟩:=bind_some hB;cases hB;refine sk (zA (zD (rj fun K=>K1 (zAL (l:=p) hq1 rfl rfl hlt (K1 (zAS hq1 hlt rfl fun v23 N23 => ?_))))));refine K1 (zd zAa fun bc2 w7 hb hE hBc hs => ?_);have hgc:w.heap.size≤bc2:=by rw [hb];exact E0.size
   have hne:b1≠bc2:=by have:=hNX.lt;omega
   have hna:=hA.new (c:=bc2) (by omega);replace E0:=E0.trans hE;replace N23:=N23.ext hE;replace hNX:=hNX.ext hE;replace hA:=hA.ext hE;clear hE hb hs;refine K1 (zK rfl N23 (Cell3.of hBc rfl) fun _ w9 hU hNA => ?_);replace E0:=E0.upd hU hgc;replace hNX:=hNX.upd hU hBc hne;replace hA:=hA.upd hU hBc hna;clear hU hBc N23;refine rm [3,5,7,8,9,10] K ?_;refine rI fun K=>K1 (zR rfl hNA fun v15 N15=>K1 (zR rfl hNX fun v16 N16=>K1 (zH hb101 (CallK.of_ret (zHe N15 N16 hr1) fun v17 w8 hE N17 => ?_) rfl)));replace E0:=E0.trans hE;replace hNX:=hNX.ext hE;replace hA:=hA.ext hE;clear hE N15 N16;obtain ⟨n17,d17,rfl,hn17,hd17⟩:=N17;have N17:IsNum _ (.agg #[.bool (decide (p.getD i 0*x<0)),n17,d17]) (p.getD i 0*x):=⟨_,_,rfl,hn17,hd17⟩;clear hn17 hd17;refine K1 (zc (cs:=[.bool (decide (p.getD i 0*x<0)),n17,d17]) zAb info37' (by decide) (by decide) (by kernel_rfl) fun bb w10 hb hE hBb hs => ?_);replace E0:=E0.trans hE;replace hNX:=hNX.ext hE;replace hA:=hA.ext hE;replace N17:=N17.ext hE;clear hE hb hs;refine K1 (zFI hA rfl hBb N17 (by omega) (by have:=hNX.lt;omega) fun v19 w11 hX hA2 => ?_);replace E0:=hX.ext (by omega) E0;replace hNX:=hX.num (by omega) hNX;clear hA;have hA:=hA2;clear hA2;refine ag (rl K (zS (zN (K5 [3,5,8,9,10] ?_))));refine K6 fun K=>K8 rfl (mv (rl K (zP ?_)))
   exact ⟨rfl,i+1,⟨v19,A++[p.getD i 0*x],⟨rfl,rfl,rfl,rfl,rfl,rfl,rfl,rfl,rfl,congrArg (Value.int .i64) (zx (by omega)),trivial⟩,by omega,E0,hA,by simp [hAl],⟨B2,hB2,by rw [List.append_assoc];exact hAB⟩,hNX⟩,by omega⟩
 · have hge:=f_lt hc;obtain rfl:i=p.length:=by omega
   clear hc;rw [List.drop_length] at hB;cases hB;rw [List.append_nil] at hAB;subst hAB;refine zV (zv (zi (zL (zN (rj fun K=>mv ?_)))));have hsz:=E0.size;refine K1 (j0 E0 hb34 (zCB (hA.own (by omega)).poly) fun v9 w9 E0 hr => ?_);rw [hLs] at hr;refine ag (rm [3,4,8,9,10] K ?_);exact zB (en rfl E0 (hr.sz hsz))
variable {b n:Nat} {l:List Rat} {y:Rat}
theorem cells3_len (v:Value) (n:Nat) (h:v.cells.toList.length=3):((List.replicate n v.cells.toList).flatten).length=3*n:=by
 simp [List.length_flatten,h];omega
theorem flat3 (a b c:Value):∀ (n i:Nat),i<n→(((List.replicate n [a,b,c]).flatten).drop (3*i)).take 3=[a,b,c]
 | 0,i,h=>by omega
 | n+1,0,_=>by simp [List.replicate_succ]
 | n+1,i+1,h=>by
  rw [List.replicate_succ,List.flatten_cons,show 3*(i+1)=3*i+1+1+1 from by omega];simp only [List.cons_append,List.nil_append,List.drop_succ_cons];exact flat3 a b c n i (by omega)
theorem PBlk.zeros (h:Blk w b 37 ((List.replicate n (Value.agg #[.bool false,.slice none 0 0,.slice none 0 0]).cells.toList).flatten)):PBlk w b (List.replicate n 0):=by
 refine ⟨_,h,?_,fun i hi => ?_⟩
 · rw [cells3_len _ _ rfl,List.length_replicate];exact Nat.le_refl _
 · rw [List.length_replicate] at hi;rw [show (Value.agg #[.bool false,.slice none 0 0,.slice none 0 0]).cells.toList=[Value.bool false,.slice none 0 0,.slice none 0 0] from rfl,flat3 _ _ _ n i hi,show (List.replicate n (0:Rat)).getD i 0=0 from by simp [List.getElem?_replicate,hi]];exact IsNum.zero
theorem zAw (l:List Rat):(trim l).length≤l.length:=by
 unfold trim;rw [List.length_reverse];have:=(List.dropWhile_suffix (fun x:Rat=>decide (x=0)) (l:=l.reverse)).length_le;simpa using this
theorem zIN {p q s:List Rat} (hp:zO w u p) (hq:zO w v q) (h:psub p q=some s):Ret prog 70 #[u,v] w (fun r w'=>IsOwn w.heap.size w' r s):=by
 obtain ⟨m,h1,h2⟩:=bind_some h;have E0:Ext w w:=Ext.refl w;refine J0 10 func70 rfl (rj fun K=>ag (rm [0,1] K ?_));refine rJ fun K=>mv (K1 (j2 E0 hp.ext hq.ext hb38 (zDO (by decide) (by decide)) fun v1_2 w1 E0 hp hq N7=>K1 (j1 E0 hp.ext hb56 (zDn hq N7 h1) fun v8 w8 E0 hp hS=>K1 (zH hb149 (CallK.of_ret (zJG hp hS.poly h2) fun v9 w9 hE hr => ?_) rfl))));have hsz:=E0.size;replace E0:=E0.trans hE;clear hE;refine ag (rm [4] K ?_);exact zB (en rfl E0 (hr.sz hsz))
theorem zLv (hp:zO w v l) (h0:l≠[]):Ret prog 259 #[v] w (fun r w'=>IsNum w' r (top l)):=by
 obtain ⟨p,c,rfl,hc,hP,hl⟩:=hp;have hl0:0<l.length:=List.length_pos_iff.2 h0;refine J0 9 func259 rfl (rj fun K => ?_);refine K1 (zd zAa fun b1 w1 hb hE hB1 hs => ?_);have hgb1:w.heap.size≤b1:=by rw [hb];exact E0.size
 replace E0:=E0.trans hE;replace hP:=hP.ext hE;clear hE hs hb;refine rm [0,2] K ?_;refine rJ fun K=>mv (K1 (zG zAB rfl (K1 (zAM (b:=1) (l.length-1) rfl rfl (by omega) (by omega) (K1 (zAL (l:=l) (ix:=l.length-1) hP rfl rfl (by omega) (K1 (zAS hP (i:=l.length-1) (by omega) rfl fun v8 N8=>K1 (zK rfl N8 (Cell3.of hB1 rfl) fun _ w9 hU hN => ?_)))))))));replace E0:=E0.upd hU hgb1;obtain ⟨cs,hB4,hl4,hN4⟩:=hN;refine rm [2] K ?_;exact zB (zQ ⟨rfl,_,zAD rfl rfl rfl zz hB4 hl4,E0,hN4⟩)
theorem zKq (hx:IsNum w u x) (hy:IsNum w v y) (hr:rroom x y=true):Ret prog 311 #[u,v] w (fun r w'=>IsNum w' r (x/y)):=by
 have hx0:=hx;have hy0:=hy;obtain ⟨xn,xd,rfl,hxn,hxd⟩:=hx0;obtain ⟨yn,yd,rfl,hyn,hyd⟩:=hy0;refine J0 14 func311 rfl (rj fun K => ?_);refine K1 (zAA fun b1 w1 hb hE hB1 hs => ?_);have hgb1:w.heap.size≤b1:=by rw [hb];exact E0.size
 replace E0:=E0.trans hE;replace hx:=hx.ext hE;replace hy:=hy.ext hE;clear hE hs hb;refine K1 (zAA fun b2 w2 hb hE hB2 hs => ?_);have hgb2:w.heap.size≤b2:=by rw [hb];exact E0.size
 have ne_b1_b2:b1≠b2:=by have:=hB1.lt;omega
 replace E0:=E0.trans hE;replace hx:=hx.ext hE;replace hy:=hy.ext hE;replace hB1:=hB1.ext hE;clear hE hs hb;refine K1 (zd zAa fun b3 w3 hb hE hB3 hs => ?_);have hgb3:w.heap.size≤b3:=by rw [hb];exact E0.size
 have ne_b1_b3:b1≠b3:=by have:=hB1.lt;omega
 have ne_b2_b3:b2≠b3:=by have:=hB2.lt;omega
 replace E0:=E0.trans hE;replace hx:=hx.ext hE;replace hy:=hy.ext hE;replace hB1:=hB1.ext hE;replace hB2:=hB2.ext hE;clear hE hs hb;refine rm [2,3,4] K ?_;refine rj fun K=>K1 (zp zz rfl hB1 (Nat.le_of_ble_eq_true rfl) (K1 (zp zz rfl hB2 (Nat.le_of_ble_eq_true rfl) (K1 (j5 E0 hx.ext hy.ext hB1.ext hB2.ext hB3.ext hb37 (zPj hx hy hr) fun v1_2 w4 E0 hx hy hB1 hB2 hB3 hr => ?_)))));obtain ⟨q,rfl,hq⟩:=hr;refine mv (xt rfl (xt rfl ?_));refine K1 (zd zAa fun b5 w5 hb hE hB5 hs => ?_);have hgb5:w.heap.size≤b5:=by rw [hb];exact E0.size
 have ne_b1_b5:b1≠b5:=by have:=hB1.lt;omega
 have ne_b2_b5:b2≠b5:=by have:=hB2.lt;omega
 have ne_b3_b5:b3≠b5:=by have:=hB3.lt;omega
 replace E0:=E0.trans hE;replace hx:=hx.ext hE;replace hy:=hy.ext hE;replace hB1:=hB1.ext hE;replace hB2:=hB2.ext hE;replace hB3:=hB3.ext hE;replace hq:=hq.ext hE;clear hE hs hb;refine K1 (zK rfl hq (Cell3.of hB5 rfl) fun _ w9 hU hN5 => ?_);replace E0:=E0.upd hU hgb5;replace hB3:=hB3.upd hU ne_b3_b5;refine ag (rm [4,5] K ?_);refine rj fun K=>K1 (zR rfl hN5 fun v13 hq2=>K1 (zK rfl hq2 (Cell3.of hB3 rfl) fun _ w9 hU hN => ?_));replace E0:=E0.upd hU hgb3;obtain ⟨cs,hB4,hl4,hN4⟩:=hN;refine rm [4] K ?_;exact zB (zQ ⟨rfl,_,zAD rfl rfl rfl zz hB4 hl4,E0,hN4⟩)
theorem zHk {p m:List Rat} (hp:zO w v p) (h:monic p=some m):Ret prog 253 #[v] w (fun r w'=>IsOwn w.heap.size w' r m):=by
 have E0:Ext w w:=Ext.refl w;refine J0 14 func253 rfl (rj fun K=>ag (rm [0] K ?_));refine rJ fun K=>K1 (zH hb34 (CallK.of_ret (zCB hp) fun v4 w4 hE hT => ?_) rfl);have hsz:=E0.size;replace E0:=E0.trans hE;clear hE;obtain ⟨tp,tc,rfl,htc,hTP,htl,_⟩:=hT;refine ag (rm [0] K ?_);refine zA (rJ fun K=>K1 (zG zAB rfl (K8 rfl (rm [0,7] K ?_))));refine K0 rfl ?_ ?_<;>intro hc
 · have h0:trim p=[]:=List.eq_nil_of_length_eq_zero (by have:=eq_of_beq hc;omega);clear hc;rw [monic,if_pos h0] at h;cases h;refine rj fun K=>ag (rm [2] K ?_);exact zB (zU (en rfl E0 IsOwn.nil))
 · have h0:trim p≠[]:=fun e=>by rw [e] at hc;cases hc
   clear hc;rw [monic,if_neg h0] at h;obtain ⟨c,hd,hs⟩:=bind_some h;obtain ⟨hr1,rfl⟩:=zDC hd;have hT:zO _ (.slice tp (trim p).length tc) (trim p):=⟨tp,tc,rfl,htc,hTP,htl⟩;refine sk (rJ fun K=>K1 (j1 E0 hT.ext hb38 (zDO (n:=1) (by decide) (by decide)) fun v9 w9 E0 hT N9=>mv (K1 (j2 E0 hT.ext N9.ext hb259 (zLv hT h0) fun v11 w11 E0 hT N9 N11=>K1 (j1 E0 hT.ext hb311 (zKq N9 N11 hr1) fun v12 w12 E0 hT N12=>K1 (zH hb56 (CallK.of_ret (zDn hT N12 hs) fun v13 w13 hE hr => ?_) rfl))))));have hsz2:=E0.size;replace E0:=E0.trans hE;clear hE;refine ag (rm [2] K ?_);exact zB (en rfl E0 (hr.sz hsz2))
theorem zEj {p q s:List Rat} (hp:zO w u p) (hq:zO w v q) (h:pmul p q=some s):Ret prog 71 #[u,v] w (fun r w'=>IsOwn w.heap.size w' r s):=by
 obtain ⟨pp,pc,rfl,hpc,hpP,hpl⟩:=hp;obtain ⟨qp,qc,rfl,hqc,hqP,hql⟩:=hq;have hbig:p.length+q.length≤4096:=by
  rcases Nat.lt_or_ge 4096 (p.length+q.length) with hb | hb
  · rw [pmul,if_pos hb] at h;cases h
  · exact hb
 rw [pmul,if_neg (by omega)] at h;obtain ⟨R,hR,hRs⟩:=map_some h;have E0:Ext w w:=Ext.refl w;refine J0 52 func71 rfl (rj fun K=>ag (rm [0,1] K ?_));refine rJ fun K=>K1 (zG zAB rfl (mv (K1 (zG zAB rfl (K1 (za (p.length+q.length) rfl rfl rfl (by omega) ?_))))));refine K1 (zAJ zAb zEX rfl rfl rfl (by omega) (by omega) (by omega) fun ob w1 hb1 hE hB hs => ?_);have hob:w.heap.size≤ob:=Nat.le_of_eq hb1.symm;replace E0:=E0.trans hE;clear hE hs hb1;rw [show ((p.length+q.length:Nat):Int).toNat=p.length+q.length from by omega] at hB ⊢;have hOB:=PBlk.zeros hB;clear hB;refine ag (rm [0,1,5] K ?_);refine zA (rJ fun K=>K1 (zG zAB rfl (mv (rm [1,5,16,17,18] K ?_))));refine zD (ze (X:=Nat) (fun i ρ w'=>Keep ρ [(1,.slice qp q.length qc),(5,.slice (some ⟨ob,0,none⟩) (p.length+q.length) (p.length+q.length)),(16,.slice pp p.length pc),(17,.int .i64 (p.length:Nat)),(18,.int .i64 (i:Nat))]∧i≤p.length∧Ext w w'∧∃ O,O.length=(p.length+q.length)∧PBlk w' ob O∧mulL q (p.drop i) i O=some R) (fun i=>p.length-i) 0 ⟨(kp rfl),Nat.zero_le _,E0,_,by simp,hOB,hR⟩ ?_);clear E0 hOB hR;rintro i ρ1 w1 ⟨hk,hil,E0,O,hOl,hOB,hA⟩;refine wpe_k _ hk ?_;clear hk ρ1;refine rj fun K=>K8 rfl (rm [1,5,16,17,18,19] K ?_);refine zA ?_;refine K0 rfl ?_ ?_<;>intro hc
 · have hlt:i<p.length:=t_lt hc;clear hc;have hp1:=hpP.ext E0;rw [zEK hlt] at hA;refine sk (zA (zD (rJ fun K=>K1 (zAL (l:=p) hp1 rfl rfl hlt (K1 (zAS hp1 hlt rfl fun v23 N23 => ?_))))));refine K1 (zd zAa fun bc2 w7 hb hE hBc hs => ?_);have hgc:w.heap.size≤bc2:=by rw [hb];exact E0.size
   have hne:bc2≠ob:=by have:=hOB.lt;omega
   replace E0:=E0.trans hE;replace N23:=N23.ext hE;replace hOB:=hOB.ext hE;clear hE hb hs;refine ag (K1 (zK rfl N23 (Cell3.of hBc rfl) fun _ w9 hU hNA => ?_));replace E0:=E0.upd hU hgc;replace hOB:=hOB.upd hU hBc (Ne.symm hne);clear hU hBc N23;refine rm [1,5,6,7,16,17,18] K ?_;refine zA (rj fun K=>K1 (zR rfl hNA fun v15 N15=>K1 (zH hb19 (CallK.of_ret (zAg N15) fun v24 w8 hE hr => ?_) rfl)));subst hr;replace E0:=E0.trans hE;replace hNA:=hNA.ext hE;replace hOB:=hOB.ext hE;clear hE N15;refine K8 rfl (rm [1,5,6,7,16,17,18,25] K ?_);refine K0 rfl ?_ ?_<;>intro hc
   · have hz:p.getD i 0=0:=zFi.1 (eq_of_beq hc);clear hc;rw [mulL,if_pos hz] at hA;obtain ⟨O',hO'⟩:∃ O',O'=O:=⟨O,rfl⟩;subst hO';have hOl':=hOl;have hOB':=hOB;have hA':=hA;exact zV (zv (zL (zN (K6 fun K=>K8 rfl (mv (rl K (zP (⟨rfl,i+1,⟨⟨rfl,rfl,rfl,rfl,rfl,rfl,rfl,rfl,rfl,congrArg (Value.int .i64) (zx (by omega)),trivial⟩,by omega,E0,O',hOl',hOB',hA'⟩,by omega⟩))))))))
   · have hz:p.getD i 0≠0:=fun e=>beq_eq_false_iff_ne.1 hc (zFi.2 e);clear hc;rw [mulL,if_neg hz] at hA;obtain ⟨O2,hO2,hA'⟩:=bind_some hA;refine sk (rJ fun K=>K1 (zG zAB rfl (mv (rm [1,5,6,7,16,17,18,26,27,28] K ?_))));refine zD (ze (X:=Nat) (fun j ρ w'=>Keep ρ [(1,.slice qp q.length qc),(5,.slice (some ⟨ob,0,none⟩) (p.length+q.length) (p.length+q.length)),(16,.slice pp p.length pc),(17,.int .i64 (p.length:Nat)),(18,.int .i64 (i:Nat)),(6,.int .i64 (i:Nat)),(7,.pointer (some ⟨bc2,0,none⟩)),(26,.slice qp q.length qc),(27,.int .i64 (q.length:Nat)),(28,.int .i64 (j:Nat))]∧j≤q.length∧Ext w w'∧NumAt bc2 (p.getD i 0) w'∧∃ O',O'.length=(p.length+q.length)∧PBlk w' ob O'∧zFP (p.getD i 0) (q.drop j) (i+j) O'=some O2) (fun j=>q.length-j) 0 ⟨(kp rfl),Nat.zero_le _,E0,hNA,O,hOl,hOB,hO2⟩ ?_);clear E0 hOB hO2 hNA hOl hA;rintro j ρ3 w3 ⟨hk,hjl,E0,hNA,O',hOl',hOB',hA2⟩;refine wpe_k _ hk ?_;clear hk ρ3;refine rj fun K=>K8 rfl (rm [1,5,6,7,16,17,18,26,27,28,29] K ?_);refine zA ?_;refine K0 rfl ?_ ?_<;>intro hc
     · have hjt:j<q.length:=t_lt hc;clear hc;have hq1:=hqP.ext E0;rw [zEK hjt] at hA2;unfold zFP at hA2;obtain ⟨m,hm,hA2⟩:=bind_some hA2;obtain ⟨s1,hs1,hA2⟩:=bind_some hA2;obtain ⟨hr1,rfl⟩:=zDI hm;obtain ⟨hr2,rfl⟩:=zFW hs1;have hOB:=hOB';clear hOB';refine sk (zA (zD (rJ fun K=>K1 (zAL (l:=q) hq1 rfl rfl hjt (K1 (zAS hq1 hjt rfl fun v33 N33 => ?_))))));refine K1 (zd zAa fun bc3 w7 hb hE hBc hs => ?_);have hgc3:w.heap.size≤bc3:=by rw [hb];exact E0.size
       have hne3:bc3≠ob:=by have:=hOB.lt;omega
       have hne4:bc2≠bc3:=by have:=hNA.lt;omega
       replace E0:=E0.trans hE;replace N33:=N33.ext hE;replace hOB:=hOB.ext hE;replace hNA:=hNA.ext hE;clear hE hb hs;refine ag (K1 (zK rfl N33 (Cell3.of hBc rfl) fun _ w9 hU hNB => ?_));replace E0:=E0.upd hU hgc3;replace hOB:=hOB.upd hU hBc (Ne.symm hne3);replace hNA:=hNA.upd hU hBc hne4;clear hU hBc N33;refine rm [1,5,6,7,8,9,16,17,18,26,27,28] K ?_;have hnw:NoW [ob] _:=noWP hOB
       refine zDm [⟨15,ob,fun w=>PBlk w ob (O'),fun w=>PBlk w ob (O'.set (i+j) (O'.getD (i+j) 0+p.getD i 0*q.getD j 0))⟩] [([(5,none)],none),([(6,none)],none),([(8,none)],none),([(34,some 1),(35,some 0)],none),([(5,none)],none),([(6,none)],none),([(8,none)],none),([(38,some 1),(39,some 0)],none),([(37,some 3),(40,some 0)],none),([(41,some 0)],none),([(7,none)],none),([(9,none)],none),([(43,some 1),(44,some 0)],none),([(42,some 3),(45,some 0)],none),([(33,some 13),(36,some 10)],none),([(47,some 0),(46,some 1)],none)] mixed (by kernel_rfl) (by kernel_rfl) (by kernel_rfl) (by simp) (by kernel_rfl) (by kernel_rfl) (all1 (zHs hOB)) fun K hK=>dbv rfl (fun σ wx hE hp hk=>zC ⟨Ext.refl _,hk.1⟩) (dbv rfl (fun σ wx hE hp hk=>zC ⟨Ext.refl _,hk.1⟩) (dbv rfl (fun σ wx hE hp hk=>zC ⟨Ext.refl _,hk.1⟩) (dbv rfl (fun σ wx hE hp hk=>za (i+j) hk.1 hk.2.1 rfl (by omega) ⟨Ext.refl _,rfl⟩) (dbv rfl (fun σ wx hE hp hk=>zC ⟨Ext.refl _,hk.1⟩) (dbv rfl (fun σ wx hE hp hk=>zC ⟨Ext.refl _,hk.1⟩) (dbv rfl (fun σ wx hE hp hk=>zC ⟨Ext.refl _,hk.1⟩) (dbv rfl (fun σ wx hE hp hk=>za (i+j) hk.1 hk.2.1 rfl (by omega) ⟨Ext.refl _,rfl⟩) (dbv rfl (fun σ wx hE hp hk=>zBj hk.1 hk.2.1 (by omega) ⟨Ext.refl _,rfl⟩) ?_))))))))
       refine dbn (fun v w'=>IsNum w' v (O'.getD (i+j) 0)) rfl (fun _ _ _ h1 hx h=>h.extS hx (hnw.ext h1)) (fun σ wx hE hp hk=>zDQ hk.1 rfl (hp _ (List.mem_singleton.2 rfl) (by show _<(15:Nat);decide)) (by omega) fun v h=>⟨Ext.refl _,h⟩) ?_;refine dbn (fun v w'=>IsNum w' v (p.getD i 0)) rfl (fun _ _ _ h1 hx h=>h.extS hx (hnw.ext h1)) (fun σ wx hE hp hk=>zR hk.1 (hNA.extS hE (nin1 hne) hnw) fun v h=>⟨Ext.refl _,h⟩) (dbn (fun v w'=>IsNum w' v (q.getD j 0)) rfl (fun _ _ _ h1 hx h=>h.extS hx (hnw.ext h1)) (fun σ wx hE hp hk=>zR hk.1 (hNB.extS hE (nin1 hne3) hnw) fun v h=>⟨Ext.refl _,h⟩) (dbn (fun v w'=>IsNum w' v (p.getD i 0*q.getD j 0)) rfl (fun _ _ _ h1 hx h=>h.extS hx (hnw.ext h1)) (fun σ wx hE hp hk=>zH hb101 (CallK.of_ret (zHe hk.1 hk.2.1 hr1) fun v w2 hX hr=>⟨hX,hr⟩) rfl) (dbn (fun v w'=>IsNum w' v (O'.getD (i+j) 0+p.getD i 0*q.getD j 0)) rfl (fun _ _ _ h1 hx h=>h.extS hx (hnw.ext h1)) (fun σ wx hE hp hk=>zH hb146 (CallK.of_ret (zJg hk.1 hk.2.1 hr2) fun v w2 hX hr=>⟨hX,hr⟩) rfl) (dbv rfl (fun σ wx hE hp hk=>zBj hk.1 hk.2.1 (by omega) ⟨Ext.refl _,rfl⟩) (dbs _ rfl (fun σ wx hE hpre hk=>zBP hk.1 rfl hk.2.1 hpre (by omega) fun v w2 hU hN=>⟨hU,hN⟩) (zLz (hK _ fun wq hS hP => ?_)))))));rintro _ rfl _ rfl _ rfl _ rfl _ rfl _ rfl _ rfl _ rfl _ rfl v42 N42 v43 N43 v44 N44 v45 N45 v46 N46 _ rfl _ _;refine zn ?_;obtain ⟨hN4,-⟩:=hP
       replace E0:=E0.updS hS hob;replace hNA:=hNA.extS hS (nin1 hne) hnw;clear hOB hS;have hOB:=hN4;clear hN4;refine zS (zN (K5 [1,5,6,7,16,17,18,26,27,28] ?_));refine K6 fun K=>K8 rfl (mv (rl K (zP ?_)));exact ⟨rfl,j+1,⟨⟨rfl,rfl,rfl,rfl,rfl,rfl,rfl,rfl,rfl,rfl,rfl,rfl,rfl,rfl,rfl,rfl,rfl,rfl,rfl,congrArg (Value.int .i64) (zx (by omega)),trivial⟩,by omega,E0,hNA,_,by simp [hOl'],hOB,by rw [← Nat.add_assoc];exact hA2⟩,by omega⟩
     · have hge:=f_lt hc;obtain rfl:j=q.length:=by omega
       clear hc;rw [List.drop_length] at hA2;obtain rfl:O'=O2:=Option.some.inj hA2;exact zV (zv (zi (zL (zS (zN (K6 fun K=>K8 rfl (mv (rl K (zP (⟨rfl,i+1,⟨⟨rfl,rfl,rfl,rfl,rfl,rfl,rfl,rfl,rfl,congrArg (Value.int .i64) (zx (by omega)),trivial⟩,by omega,E0,O',hOl',hOB',hA'⟩,by omega⟩))))))))))
 · have hge:=f_lt hc;obtain rfl:i=p.length:=by omega
   clear hc;rw [List.drop_length] at hA;obtain rfl:O=R:=Option.some.inj hA;refine zV (zv (zi (zL (zN (rj fun K=>mv ?_)))));have hsz:=E0.size;refine K1 (j0 E0 hb34 (zCB (l:=O) ⟨some ⟨ob,0,none⟩,p.length+q.length,by rw [hOl];rfl,by omega,hOB.rd,by omega⟩) fun v9 w9 E0 hr => ?_);rw [hRs] at hr;refine ag (rm [1,4,5,16,17,18] K ?_);exact zB (en rfl E0 (hr.sz hsz))
variable {w':World}
theorem PBlk.extS {S:List Nat} (h:PBlk w b l) (hx:ExtS S w w') (hb:b ∉ S) (hS:NoW S w):PBlk w' b l:=by
 obtain ⟨cs,h1,h2,h3⟩:=h;exact ⟨cs,h1.extS hx hb,h2,fun i hi=>(h3 i hi).extS hx hS⟩
theorem zCs {p q:List Rat} {qq rr:List Rat} (hp:zO w u p) (hq:zO w v q) (h:pdiv p q=some (qq,rr)):Ret prog 254 #[u,v] w (fun r w'=>∃ a b,r = .tuple #[a,b]∧IsOwn w.heap.size w' a qq∧IsOwn w.heap.size w' b rr):=by
 have hq0:trim q≠[]:=fun e=>by rw [pdiv,if_pos e] at h;cases h
 rw [pdiv,if_neg hq0] at h;have E0:Ext w w:=Ext.refl w;refine J0 69 func254 rfl (rj fun K=>ag (ag (rm [0,1,4,5] K ?_)));refine rJ fun K=>K1 (zH hb34 (CallK.of_ret (zCB hp) fun v11 w2 hE hT1 => ?_) rfl);have hsz1:=E0.size;replace E0:=E0.trans hE;replace hq:=hq.ext hE;clear hE;refine mv ?_;have hsz2:=E0.size;have hlt1:=hT1.poly;refine K1 (zH hb34 (CallK.of_ret (zCB hq) fun v13 w3 hE hT2 => ?_) rfl);obtain ⟨rp,rc,rfl,hrc,hrP,hrl,hrb⟩:=hT1;obtain ⟨qp,qc,rfl,hqc,hqP,hql,hqb⟩:=hT2;obtain ⟨qb,rfl,hqb2⟩:=hqb hq0;have hqr:trim p≠[]→∃ rb,rp=some ⟨rb,0,none⟩∧w.heap.size≤rb∧rb≠qb:=fun h0=>by
  obtain ⟨rb,e1,e2⟩:=hrb h0;obtain ⟨a,a1,a2⟩:=hrP.lt h0;rw [e1] at a1;cases a1;exact ⟨rb,e1,Nat.le_trans hsz1 e2,by simp only at a2;omega⟩
 replace E0:=E0.trans hE;replace hrP:=hrP.ext hE;clear hE hlt1 hrb hq;refine ag (ag (rm [1,4,5] K ?_));refine rJ fun K=>K1 (zG zAB rfl (mv (K1 (zG zAB rfl (K1 (zF (v := .int .i64 (((trim p).length:Int)-((trim q).length:Int))) rfl rfl (congrArg (fun z=>some (Value.int .i64 z)) (zj (by omega) (by omega))) (K1 (zF (v := .int .i64 (((trim p).length:Int)-((trim q).length:Int)+1)) rfl rfl (congrArg (fun z=>some (Value.int .i64 z)) (zj (by omega) (by omega))) (K1 (zCG rfl rfl ?_))))))))));rw [show (if ((trim p).length:Int)-((trim q).length:Int)+1<(0:Int) then (0:Int) else ((trim p).length:Int)-((trim q).length:Int)+1)=((((trim p).length+1-(trim q).length):Nat):Int) from by split<;>omega];refine K1 (zAJ zAb zEX rfl rfl rfl (by omega) (by omega) (by omega) fun zb w5 hb1 hE hB hs => ?_);have hzb:w.heap.size≤zb:=by rw [hb1];exact E0.size
 have hqz:qb≠zb:=by obtain ⟨a,a1,a2⟩:=hqP.lt hq0;cases a1;simp only at a2;omega
 have hrz:trim p≠[]→∃ rb,rp=some ⟨rb,0,none⟩∧w.heap.size≤rb∧rb≠qb∧rb≠zb:=fun h0=>by
  obtain ⟨rb,e1,e2,e3⟩:=hqr h0;obtain ⟨a,a1,a2⟩:=hrP.lt h0;rw [e1] at a1;cases a1;exact ⟨rb,e1,e2,e3,by simp only at a2;omega⟩
 replace E0:=E0.trans hE;replace hqP:=hqP.ext hE;replace hrP:=hrP.ext hE;clear hE hs hb1 hqr;rw [show ((((trim p).length+1-(trim q).length):Nat):Int).toNat=((trim p).length+1-(trim q).length) from by omega] at hB ⊢;have hZB:=PBlk.zeros hB;clear hB;refine ag (rm [1,4,5] K ?_);refine zA (zD (ze (X:=Nat) (fun f ρ w'=>∃ rp rc rest quo,Keep ρ [(1,.slice (some ⟨qb,0,none⟩) (trim q).length qc),(4,.slice (some ⟨zb,0,none⟩) ((trim p).length+1-(trim q).length) ((trim p).length+1-(trim q).length)),(5,.slice rp rest.length rc)]∧Ext w w'∧PRd w' (some ⟨qb,0,none⟩) (trim q)∧quo.length=((trim p).length+1-(trim q).length)∧PBlk w' zb quo∧PRd w' rp rest∧rest.length≤rc∧rest.length≤(trim p).length∧(rest≠[]→∃ rb,rp=some ⟨rb,0,none⟩∧w.heap.size≤rb∧rb≠qb∧rb≠zb)∧divL (trim q) f rest quo=some (qq,rr)) (fun f=>f) ((trim p).length+1) ⟨rp,rc,trim p,_,(kp rfl),E0,hqP,by simp,hZB,hrP,hrc,Nat.le_refl _,hrz,h⟩ ?_));clear E0 hqP hZB hrP hrc hrz h rp rc;rintro f ρ1 w1 ⟨rp,rc,rest,quo,hk,E0,hqP,hzl,hZB,hrP,hrc,hrl1,hrz,hA⟩;refine wpe_k _ hk ?_;clear hk ρ1;refine zA (zA ?_);rcases f with _ | f
 · cases hA
 unfold divL at hA;refine rI fun K=>K1 (zG zAB rfl (mv (K1 (zG zAB rfl (K8 rfl (rs [1,4,5,26] K ?_))))));refine K0 rfl ?_ ?_<;>intro hc
 · have hge:¬ rest.length<(trim q).length:=by have:=of_decide_eq_true hc;omega
   clear hc;rw [if_neg hge] at hA;obtain ⟨c,hc1,hA⟩:=bind_some hA;obtain ⟨hr1,hc2⟩:=zDC hc1;obtain ⟨R,hR,hA⟩:=bind_some hA;have hq1:0<(trim q).length:=List.length_pos_iff.2 hq0;have hr0:rest≠[]:=fun e=>by rw [e] at hge;simp only [List.length_nil] at hge;omega
   obtain ⟨rb,rfl,hrb1,hrb2,hrb3⟩:=hrz hr0;have hRB:=hrP.blk hr0;clear hrP hrz;refine sk (zD (rJ fun K=>K1 (j3 E0 hqP.ext hZB.ext hRB.ext hb259 (zLv (l:=rest) ⟨_,rc,rfl,hrc,hRB.rd,by omega⟩ hr0) fun v28 w6 E0 hqP hZB hRB N28=>mv (K1 (j4 E0 hqP.ext hZB.ext hRB.ext N28.ext hb259 (zLv (l:=trim q) ⟨_,qc,rfl,hqc,hqP,hql⟩ hq0) fun v30 w6 E0 hqP hZB hRB N28 N30=>K1 (zH hb311 (CallK.of_ret (zKq N28 N30 hr1) fun v31 w6 hE N31 => ?_) rfl))))));rw [← hc2] at N31;replace E0:=E0.trans hE;replace hqP:=hqP.ext hE;replace hZB:=hZB.ext hE;replace hRB:=hRB.ext hE;clear hE N28 N30;refine mv (K1 (zG zAB rfl (mv (K1 (zG zAB rfl (K1 (zAM (rest.length-(trim q).length) rfl rfl (by omega) (by omega) ?_)))))));refine K1 (zd zAa fun cb w7 hb hE hBc hs => ?_);have hgc:w.heap.size≤cb:=by rw [hb];exact E0.size
   have hcr:cb≠rb:=by have:=hRB.lt;omega
   have hcz:cb≠zb:=by have:=hZB.lt;omega
   have hcq:qb≠cb:=by obtain ⟨a,a1,a2⟩:=hqP.lt hq0;cases a1;simp only at a2;omega
   replace E0:=E0.trans hE;replace hqP:=hqP.ext hE;replace hZB:=hZB.ext hE;replace hRB:=hRB.ext hE;replace N31:=N31.ext hE;clear hE hb hs;refine K1 (zK rfl N31 (Cell3.of hBc rfl) fun _ w9 hU hNA => ?_);replace E0:=E0.upd hU hgc;replace hqP:=hqP.upd hU hBc (fun a ha _=>by cases ha;exact hcq);replace hZB:=hZB.upd hU hBc (Ne.symm hcz);replace hRB:=hRB.upd hU hBc (Ne.symm hcr);clear hU hBc N31;refine ag (rm [1,4,5,6,7] K ?_);refine rJ fun K=>mv (K1 (zR rfl hNA fun v39 N39=>K1 (zBj rfl rfl (by omega) (K1 (zBP (l:=quo) (k:=(rest.length-(trim q).length)) rfl rfl N39 hZB (by omega) fun _ w9 hU hZ2 => ?_)))));replace E0:=E0.upd hU hzb;obtain ⟨zcs,hzB,-⟩:=hZB;replace hqP:=hqP.upd hU hzB (fun a ha _=>by cases ha;exact hqz);replace hRB:=hRB.upd hU hzB hrb3;replace hNA:=hNA.upd hU hzB hcz;clear hU hzB zcs N39;have hZB:=hZ2;clear hZ2;refine rm [1,4,5,6,7] K ?_;refine zA (rJ fun K=>K1 (zG zAB rfl (mv (rm [1,4,5,6,7,41,42,43] K ?_))))
   refine zD (ze (X:=Nat) (fun j ρ w'=>Keep ρ [(1,.slice (some ⟨qb,0,none⟩) (trim q).length qc),(4,.slice (some ⟨zb,0,none⟩) ((trim p).length+1-(trim q).length) ((trim p).length+1-(trim q).length)),(5,.slice (some ⟨rb,0,none⟩) rest.length rc),(6,.pointer (some ⟨cb,0,none⟩)),(7,.int .i64 ((rest.length-(trim q).length:Nat):Nat)),(41,.slice (some ⟨qb,0,none⟩) (trim q).length qc),(42,.int .i64 ((trim q).length:Nat)),(43,.int .i64 (j:Nat))]∧j≤(trim q).length∧Ext w w'∧PRd w' (some ⟨qb,0,none⟩) (trim q)∧PBlk w' zb (quo.set (rest.length-(trim q).length) c)∧NumAt cb c w'∧∃ O,O.length=rest.length∧PBlk w' rb O∧zGa c ((trim q).drop j) ((rest.length-(trim q).length)+j) O=some R) (fun j=>(trim q).length-j) 0 ⟨(kp rfl),Nat.zero_le _,E0,hqP,hZB,hNA,rest,rfl,hRB,hR⟩ ?_);clear E0 hqP hZB hNA hRB hR;rintro j ρ3 w3 ⟨hk,hjl,E0,hqP,hZB,hNA,O,hOl,hOB,hA2⟩;refine wpe_k _ hk ?_;clear hk ρ3;refine rj fun K=>K8 rfl (rm [1,4,5,6,7,41,42,43,44] K ?_);refine zA ?_;refine K0 rfl ?_ ?_<;>intro hc
   · have hjt:j<(trim q).length:=t_lt hc;clear hc;rw [zEK hjt] at hA2;unfold zGa at hA2;obtain ⟨m,hm,hA2⟩:=bind_some hA2;obtain ⟨s1,hs1,hA2⟩:=bind_some hA2;obtain ⟨hr2,rfl⟩:=zDI hm;obtain ⟨hr3,rfl⟩:=zMN hs1;refine sk (zA (zD (rJ fun K=>K1 (zAL (l:=trim q) hqP rfl rfl hjt (K1 (zAS hqP hjt rfl fun v33 N33 => ?_))))));refine K1 (zd zAa fun bc3 w7 hb hE hBc hs => ?_);have hgc3:w.heap.size≤bc3:=by rw [hb];exact E0.size
     have hd1:bc3≠rb:=by have:=hOB.lt;omega
     have hd2:cb≠bc3:=by have:=hNA.lt;omega
     have hd3:zb≠bc3:=by have:=hZB.lt;omega
     have hd4:qb≠bc3:=by obtain ⟨a,a1,a2⟩:=hqP.lt hq0;cases a1;simp only at a2;omega
     replace E0:=E0.trans hE;replace N33:=N33.ext hE;replace hOB:=hOB.ext hE;replace hNA:=hNA.ext hE;replace hZB:=hZB.ext hE;replace hqP:=hqP.ext hE;clear hE hb hs;refine ag (K1 (zK rfl N33 (Cell3.of hBc rfl) fun _ w9 hU hNB => ?_));replace E0:=E0.upd hU hgc3;replace hOB:=hOB.upd hU hBc (Ne.symm hd1);replace hNA:=hNA.upd hU hBc hd2;replace hZB:=hZB.upd hU hBc hd3;replace hqP:=hqP.upd hU hBc (fun a ha _=>by cases ha;exact hd4);clear hU hBc N33;refine rm [1,4,5,6,7,8,9,41,42,43] K ?_;have hnw:NoW [rb] _:=noWP hOB
     refine zDm [⟨15,rb,fun w=>PBlk w rb (O),fun w=>PBlk w rb (O.set ((rest.length-(trim q).length)+j) (O.getD ((rest.length-(trim q).length)+j) 0-c*(trim q).getD j 0))⟩] [([(5,none)],none),([(7,none)],none),([(8,none)],none),([(49,some 1),(50,some 0)],none),([(5,none)],none),([(7,none)],none),([(8,none)],none),([(53,some 1),(54,some 0)],none),([(52,some 3),(55,some 0)],none),([(56,some 0)],none),([(6,none)],none),([(9,none)],none),([(58,some 1),(59,some 0)],none),([(57,some 3),(60,some 0)],none),([(48,some 13),(51,some 10)],none),([(62,some 0),(61,some 1)],none)] mixed (by kernel_rfl) (by kernel_rfl) (by kernel_rfl) (by simp) (by kernel_rfl) (by kernel_rfl) (all1 (zHs hOB)) fun K hK=>dbv rfl (fun σ wx hE hp hk=>zC ⟨Ext.refl _,hk.1⟩) (dbv rfl (fun σ wx hE hp hk=>zC ⟨Ext.refl _,hk.1⟩) (dbv rfl (fun σ wx hE hp hk=>zC ⟨Ext.refl _,hk.1⟩) (dbv rfl (fun σ wx hE hp hk=>za ((rest.length-(trim q).length)+j) hk.1 hk.2.1 rfl (by omega) ⟨Ext.refl _,rfl⟩) (dbv rfl (fun σ wx hE hp hk=>zC ⟨Ext.refl _,hk.1⟩) (dbv rfl (fun σ wx hE hp hk=>zC ⟨Ext.refl _,hk.1⟩) (dbv rfl (fun σ wx hE hp hk=>zC ⟨Ext.refl _,hk.1⟩) (dbv rfl (fun σ wx hE hp hk=>za ((rest.length-(trim q).length)+j) hk.1 hk.2.1 rfl (by omega) ⟨Ext.refl _,rfl⟩) (dbv rfl (fun σ wx hE hp hk=>zBj hk.1 hk.2.1 (by omega) ⟨Ext.refl _,rfl⟩) ?_))))))))
     refine dbn (fun v w'=>IsNum w' v (O.getD ((rest.length-(trim q).length)+j) 0)) rfl (fun _ _ _ h1 hx h=>h.extS hx (hnw.ext h1)) (fun σ wx hE hp hk=>zDQ hk.1 rfl (hp _ (List.mem_singleton.2 rfl) (by show _<(15:Nat);decide)) (by omega) fun v h=>⟨Ext.refl _,h⟩) ?_;refine dbn (fun v w'=>IsNum w' v c) rfl (fun _ _ _ h1 hx h=>h.extS hx (hnw.ext h1)) (fun σ wx hE hp hk=>zR hk.1 (hNA.extS hE (nin1 hcr) hnw) fun v h=>⟨Ext.refl _,h⟩) (dbn (fun v w'=>IsNum w' v ((trim q).getD j 0)) rfl (fun _ _ _ h1 hx h=>h.extS hx (hnw.ext h1)) (fun σ wx hE hp hk=>zR hk.1 (hNB.extS hE (nin1 hd1) hnw) fun v h=>⟨Ext.refl _,h⟩) (dbn (fun v w'=>IsNum w' v (c*(trim q).getD j 0)) rfl (fun _ _ _ h1 hx h=>h.extS hx (hnw.ext h1)) (fun σ wx hE hp hk=>zH hb101 (CallK.of_ret (zHe hk.1 hk.2.1 hr2) fun v w2 hX hr=>⟨hX,hr⟩) rfl) (dbn (fun v w'=>IsNum w' v (O.getD ((rest.length-(trim q).length)+j) 0-c*(trim q).getD j 0)) rfl (fun _ _ _ h1 hx h=>h.extS hx (hnw.ext h1)) (fun σ wx hE hp hk=>zH hb237 (CallK.of_ret (zPk hk.1 hk.2.1 hr3) fun v w2 hX hr=>⟨hX,hr⟩) rfl) (dbv rfl (fun σ wx hE hp hk=>zBj hk.1 hk.2.1 (by omega) ⟨Ext.refl _,rfl⟩) (dbs _ rfl (fun σ wx hE hpre hk=>zBP hk.1 rfl hk.2.1 hpre (by omega) fun v w2 hU hN=>⟨hU,hN⟩) (zLz (hK _ fun wq hS hP => ?_)))))));rintro _ rfl _ rfl _ rfl _ rfl _ rfl _ rfl _ rfl _ rfl _ rfl v57 N57 v58 N58 v59 N59 v60 N60 v61 N61 _ rfl _ _
     refine zn ?_;obtain ⟨hN4,-⟩:=hP;replace E0:=E0.updS hS hrb1;replace hNA:=hNA.extS hS (nin1 hcr) hnw;replace hqP:=hqP.extS hS (fun a ha _=>by cases ha;exact nin1 (Ne.symm hrb2)) hnw;replace hZB:=hZB.extS hS (nin1 (Ne.symm hrb3)) hnw;clear hOB hS;have hOB:=hN4;clear hN4;refine zS (zN (K5 [1,4,5,6,7,41,42,43] ?_));refine K6 fun K=>K8 rfl (mv (rl K (zP ?_)));exact ⟨rfl,j+1,⟨⟨rfl,rfl,rfl,rfl,rfl,rfl,rfl,rfl,rfl,rfl,rfl,rfl,rfl,rfl,rfl,congrArg (Value.int .i64) (zx (by omega)),trivial⟩,by omega,E0,hqP,hZB,hNA,_,by simp [hOl],hOB,by rw [← Nat.add_assoc];exact hA2⟩,by omega⟩
   · have hgj:=f_lt hc;obtain rfl:j=(trim q).length:=by omega
     clear hc;rw [List.drop_length] at hA2;obtain rfl:O=R:=Option.some.inj hA2;refine zV (zv (zi (zL (zN (K6 fun K=>mv ?_)))));have hsz:=E0.size;have hbb:qb<_∧zb<_:=⟨by obtain ⟨a,a1,a2⟩:=hqP.lt hq0;cases a1;exact a2,hZB.lt⟩;refine K1 (zH hb34 (CallK.of_ret (zCB (l:=O) ⟨some ⟨rb,0,none⟩,rc,by rw [hOl];rfl,by omega,hOB.rd,by omega⟩) fun v9 w9 hE hr => ?_) rfl);obtain ⟨np,nc,rfl,hnc,hnP,hnl,hnb0⟩:=hr;have hnb:trim O≠[]→∃ b,np=some ⟨b,0,none⟩∧w.heap.size≤b∧b≠qb∧b≠zb:=fun h0=>by
      obtain ⟨b,e1,e2⟩:=hnb0 h0;exact ⟨b,e1,by omega,by omega,by omega⟩
     replace E0:=E0.trans hE;replace hqP:=hqP.ext hE;replace hZB:=hZB.ext hE;clear hE hnb0;exact ag (rl K (zS (zP (⟨rfl,f,⟨np,nc,trim O,quo.set (rest.length-(trim q).length) c,(kp rfl),E0,hqP,by simp [hzl],hZB,hnP,hnc,Nat.le_trans (zAw O) (by omega),hnb,hA⟩,by omega⟩))))
 · have hlt:rest.length<(trim q).length:=by have:=of_decide_eq_false hc;omega
   clear hc;rw [if_pos hlt] at hA;cases hA;refine zV (zv (zi (zL (zN (rj fun K=>mv ?_)))));have hsz:=E0.size;refine K1 (j1 E0 hrP.ext hb34 (zCB (l:=quo) ⟨some ⟨zb,0,none⟩,_,by rw [hzl];rfl,by omega,hZB.rd,by omega⟩) fun v9 w9 E0 hrP hr => ?_);refine mv (ag (ag (rm [1,4,5] K ?_)));refine zB (zQ ?_);exact ⟨rfl,_,zo rfl rfl rfl,E0,_,_,rfl,hr.sz hsz,rp,rc,rfl,hrc,hrP,by omega,fun h0=>let ⟨b,e1,e2,_⟩:=hrz h0;⟨b,e1,e2⟩⟩
theorem zEg {p q s:List Rat} (hp:zO w u p) (hq:zO w v q) (h:zDG p q=some s):Ret prog 170 #[u,v] w (fun r w'=>IsOwn w.heap.size w' r s):=by
 obtain ⟨⟨s',t⟩,h1,he⟩:=map_some h;simp only at he;subst he;refine J0 14 func170 rfl (rj fun K=>ag (rm [0,1] K ?_));refine rJ fun K=>mv (K1 (zH hb254 (CallK.of_ret (zCs hp hq h1) fun v10 w10 hE hr => ?_) rfl));obtain ⟨a,b,rfl,hr1,-⟩:=hr;replace E0:=E0.trans hE;clear hE;refine mv (xt rfl (xt rfl (ag (ag (rm [5] K ?_)))));refine rJ fun K=>ag (rm [4] K ?_);exact zB (en rfl E0 hr1)
theorem zFJ {p q s:List Rat} (hp:zO w u p) (hq:zO w v q) (h:zBz p q=some s):Ret prog 168 #[u,v] w (fun r w'=>IsOwn w.heap.size w' r s):=by
 obtain ⟨p1,h1,h⟩:=bind_some h;obtain ⟨q1,h2,h3⟩:=bind_some h;have E0:Ext w w:=Ext.refl w;refine J0 24 func168 rfl (rj fun K=>ag (rm [0,1] K ?_));refine rJ fun K=>K1 (zH hb253 (CallK.of_ret (zHk hp h1) fun v8 w2 hE hP1 => ?_) rfl);have hsz:=E0.size;replace E0:=E0.trans hE;replace hq:=hq.ext hE;clear hE;refine mv (K1 (zH hb253 (CallK.of_ret (zHk hq h2) fun v10 w3 hE hP2 => ?_) rfl));replace hP2:=hP2.sz E0.size;replace E0:=E0.trans hE;replace hP1:=hP1.ext hE;clear hE;refine ag (ag (rm [0,1] K ?_));refine zA (zD (ze (X:=Nat) (fun f ρ w'=>∃ v0 v1 P Q,Keep ρ [(0,v0),(1,v1)]∧Ext w w'∧IsOwn w.heap.size w' v0 P∧IsOwn w.heap.size w' v1 Q∧zBX f P Q=some s) (fun f=>f) (q1.length+1) ⟨_,_,p1,q1,(kp rfl),E0,hP1.sz hsz,hP2,h3⟩ ?_));clear E0 hP1 hP2 h3;rintro f ρ1 w1 ⟨v0,v1,P,Q,hk,E0,hP,hQ,hA⟩;have hQ0:=hQ;obtain ⟨qp,qc,rfl,-,-,-,-⟩:=hQ0;refine wpe_k _ hk ?_;clear hk ρ1;refine zA (zA ?_);rcases f with _ | f
 · cases hA
 unfold zBX at hA;refine rI fun K=>K1 (zG zAB rfl (K8 rfl (rs [0,1,13] K ?_)));refine K0 rfl ?_ ?_<;>intro hc
 · have h0:Q≠[]:=fun e=>by rw [e] at hc;cases hc
   clear hc;rw [if_neg h0] at hA;obtain ⟨⟨dq,dr⟩,hd,hA⟩:=bind_some hA;obtain ⟨m,hm,hA⟩:=bind_some hA;refine sk (zD (rJ fun K=>mv (K1 (zH hb254 (CallK.of_ret (zCs hP.poly hQ.poly hd) fun v17 w10 hE hr => ?_) rfl))));obtain ⟨a,b,rfl,-,hr1⟩:=hr;replace E0:=E0.trans hE;replace hQ:=hQ.ext hE;clear hE;refine mv (xt rfl (xt rfl (ag (ag (rm [1,6] K ?_)))));refine rI fun K=>mv (K1 (zH hb253 (CallK.of_ret (zHk hr1.poly hm) fun v22 w11 hE hM => ?_) rfl));have hsz3:=E0.size;replace E0:=E0.trans hE;replace hQ:=hQ.ext hE;clear hE;exact ag (ag (rl K (zS (zP (⟨rfl,f,⟨_,_,Q,m,(kp rfl),E0,hQ,hM.sz hsz3,hA⟩,by omega⟩)))))
 · have h0:Q=[]:=List.eq_nil_of_length_eq_zero (by have:=of_decide_eq_false hc;omega);clear hc;rw [if_pos h0] at hA;cases hA;refine zV (zv (zi (zL (zN (rJ fun K=>ag (rm [1,4] K ?_))))));exact zB (en rfl E0 hP)
variable {K':Value→World→Prop} {P:Program} {args:Array Value} {bx c i:Nat} {w0:World}
theorem zBV:Plain prog 25:=by unfold Plain;exact ⟨by kernel_rfl,by kernel_rfl⟩
theorem numStOkB {q q':Rat} (hB:NumAt b q w0) :
 (⟨i,b,NumAt b q,NumAt b q'⟩:StoreSpec).blk<w0.heap.size∧(⟨i,b,NumAt b q,NumAt b q'⟩:StoreSpec).pre w0∧∀ w w',ExtS [b] w0 w→ExtS [b] w w'→w'.heap[(⟨i,b,NumAt b q,NumAt b q'⟩:StoreSpec).blk]? = w.heap[(⟨i,b,NumAt b q,NumAt b q'⟩:StoreSpec).blk]? →
  ((⟨i,b,NumAt b q,NumAt b q'⟩:StoreSpec).pre w→(⟨i,b,NumAt b q,NumAt b q'⟩:StoreSpec).pre w')∧((⟨i,b,NumAt b q,NumAt b q'⟩:StoreSpec).post w→(⟨i,b,NumAt b q,NumAt b q'⟩:StoreSpec).post w'):=by
 have key:∀ (w w':World) (z:Rat),ExtS [b] w w'→w'.heap[b]? = w.heap[b]?→NumAt b z w→NumAt b z w':=fun w w' z hx he h=>by
  obtain ⟨cs,h1,h2,h3⟩:=h;exact ⟨cs,by show w'.heap[b]? = _;rw [he];exact h1,h2,h3.extS hx (noW1 h1 (by decide))⟩
 exact ⟨hB.lt,hB,fun w w' _ hx he=>⟨key w w' q hx he,key w w' q' hx he⟩⟩
theorem NumAt.cell {q:Rat} (h:NumAt b q w):Cell3 b w:=by obtain ⟨cs,h1,h2,_⟩:=h;exact ⟨cs,h1,h2⟩
theorem NumAt.now {q:Rat} (h:NumAt b q w):NoW [b] w:=by obtain ⟨cs,h1,h2,_⟩:=h;exact noW1 h1 (by decide)
def encB (p:List Rat) (i:Nat) (args:Array Value) (w:World):Prop:=∃ v,args = #[.int .i64 ((p.length-1-i:Nat):Int),v]∧IsNum w v (p.getD (p.length-1-i) 0)
theorem CallK.conv {l:Nat} {K:Value→World→Prop} (h:zJb P l args w K) (hk:∀ v w',K v w'→K' v w'):zJb P l args w K':=by
 obtain ⟨fn,tmps,assign,body,h1,h2⟩:=h;exact ⟨fn,tmps,assign,body,h1,h2.mono fun e w' ⟨v,he,hv⟩=>⟨v,he,hk v w' hv⟩⟩
theorem backward1_ok {Kp:World→World→Prop} {pc:Nat} {pp:Option Addr} {p:List Rat} (hl:p.length≤4096) (l:Nat) (J:Nat→World→Prop) (hJr:∀ i w1,J i w1→Blk w1 bx 25 [.slice pp p.length pc]∧PRd w1 pp p) (hy:∀ i,i<p.length→∀ args w1,J i w1→encB p i args w1→zJb prog l args w1 (fun u w2=>u = .bool true∧J (i+1) w2∧Kp w1 w2)) (w:World) (h0:J 0 w):CallK prog 213 #[.func (.yield l) #[] #[],.pointer (some ⟨bx,0,none⟩)] w (fun _ w2=>J p.length w2):=by
 refine zDr 19 func213 rfl rfl (Nat.le_of_ble_eq_true rfl) (zA ?_);obtain ⟨hBx,hPx⟩:=hJr _ _ h0;refine K6 fun K=>K1 (zI zBV rfl hBx rfl (K1 (zG zAB rfl (K1 (zF (v := .int .i64 (((p.length:Nat):Int)-1)) rfl rfl (congrArg (fun z=>some (Value.int .i64 z)) (zj (by omega) (by omega))) (ag (rs [0,1,3] K ?_)))))));refine zD ?_;clear hBx hPx;refine ze (X:=Nat) (fun k ρ w'=>Keep ρ [(0,.func (.yield l) #[] #[]),(1,.pointer (some ⟨bx,0,none⟩)),(3,.int .i64 (((k:Nat):Int)-1))]∧k≤p.length∧J (p.length-k) w') (fun k=>k) p.length ⟨(kp rfl),Nat.le_refl _,by rw [Nat.sub_self];exact h0⟩ ?_;clear h0;rintro k ρ1 w1 ⟨hk,hkl,hJ⟩;refine wpe_k _ hk ?_;clear hk ρ1;refine zA (zA ?_);rcases k with _ | j
 · skip
   refine rI fun K=>K8 rfl (rs [0,1,3,8] K ?_);exact wcf (congrArg Value.bool (decide_eq_false (by omega))) (zV (zv (zi (zL (zNl ⟨rfl,_,zFf rfl,by simpa using hJ⟩)))))
 · obtain ⟨hBx,hPx⟩:=hJr _ _ hJ;have hw1:((j+1:Nat):Int)-1=(j:Int):=by omega
   have hw2:IntKind.i64.wrap (((j+1:Nat):Int)-1-1)=(j:Int)-1:=by rw [zj (by omega) (by omega)];omega
   refine rI fun K=>K8 rfl (rs [0,1,3,8] K ?_);refine wct (congrArg Value.bool (decide_eq_true (by omega))) (sk (zA (zD (rJ fun K=>mv (K1 (zI zBV rfl hBx rfl (mv (K1 (zAL (l:=p) (ix:=j) hPx rfl (congrArg (Value.int .i64) hw1) (by omega) (K1 (zAS hPx (i:=j) (by omega) rfl fun v16 N16=>K1 (zJa rfl ?_))))))))))));refine CallK.conv (hy (p.length-(j+1)) (by omega) #[.int .i64 (((j+1:Nat):Int)-1),v16] _ hJ ⟨v16,by rw [hw1,show p.length-1-(p.length-(j+1))=j from by omega],by rw [show p.length-1-(p.length-(j+1))=j from by omega];exact N16⟩) ?_;rintro _ w3 ⟨rfl,hJ2,-⟩;rw [show p.length-(j+1)+1=p.length-j from by omega] at hJ2;clear hJ hBx hPx N16;refine K1 (zr rfl (rm [0,1,3,18] K ?_));exact wcf rfl (zm (zS (zN (rI fun K=>K8 rfl (ag (rl K (zP (⟨rfl,j,⟨⟨rfl,rfl,rfl,rfl,rfl,congrArg (Value.int .i64) hw2,trivial⟩,by omega,hJ2⟩,by omega⟩))))))))
theorem Backward_ok {p:Option Addr}:Ret prog 119 #[.slice p n c] w (fun r w'=>∃ bx,r = .func (.func 213) #[] #[.pointer (some ⟨bx,0,none⟩)]∧Blk w' bx 25 [.slice p n c]∧w.heap.size≤bx):=by
 refine J0 4 func119 rfl (rj fun K => ?_);refine K1 (zAA fun b1 w1 hb hE hB1 hs => ?_);have hgb1:w.heap.size≤b1:=by rw [hb];exact E0.size
 replace E0:=E0.trans hE;clear hE hs hb;refine ag (rm [1] K ?_);refine rj fun K=>K1 (zBv (ag (rm [2] K ?_)));exact zB (en rfl E0 ⟨b1,rfl,hB1,hgb1⟩)
theorem zCD {p:List Rat} (hp:zO w u p) (hx:IsNum w v x) (h:peval p x=some y):Ret prog 176 #[u,v] w (fun r w'=>IsNum w' r y):=by
 obtain ⟨pp,pc,rfl,hpc,hpP,hpl⟩:=hp;unfold peval at h;have hx0:=hx;obtain ⟨xn,xd,rfl,hxn,hxd⟩:=hx0;have E0:Ext w w:=Ext.refl w;refine zJA 18 func176 rfl rfl (Nat.le_of_ble_eq_true rfl) (rj fun K => ?_);refine K1 (zAA fun b1 w1 hb hE hB1 hs => ?_);have hgb1:w.heap.size≤b1:=by rw [hb];exact E0.size
 replace E0:=E0.trans hE;replace hx:=hx.ext hE;clear hE hs hb;refine K1 (zd zAa fun b2 w2 hb hE hB2 hs => ?_);have hgb2:w.heap.size≤b2:=by rw [hb];exact E0.size
 have ne_b1_b2:b1≠b2:=by have:=hB1.lt;omega
 replace E0:=E0.trans hE;replace hx:=hx.ext hE;replace hB1:=hB1.ext hE;clear hE hs hb;refine rm [0,3,4] K ?_;refine rj fun K => ?_;refine K1 (zd zAa fun b3 w3 hb hE hB3 hs => ?_);have hgb3:w.heap.size≤b3:=by rw [hb];exact E0.size
 have ne_b1_b3:b1≠b3:=by have:=hB1.lt;omega
 have ne_b2_b3:b2≠b3:=by have:=hB2.lt;omega
 replace E0:=E0.trans hE;replace hx:=hx.ext hE;replace hB1:=hB1.ext hE;replace hB2:=hB2.ext hE;clear hE hs hb;refine rm [0,3,4,5] K ?_;refine zA (rJ fun K=>K1 (zH hb119 (CallK.of_ret Backward_ok fun v9 w9 hE hr => ?_) rfl));obtain ⟨bx,rfl,hBx,hgx⟩:=hr;have hx3:bx≠b3:=by have:=hB3.lt;omega
 replace E0:=E0.trans hE;replace hB1:=hB1.ext hE;replace hB2:=hB2.ext hE;replace hB3:=hB3.ext hE;replace hx:=hx.ext hE;clear hE;refine rm [3,4,5,9] K ?_;refine zD ?_;have hNX:NumAt b1 x _:=⟨_,hB1,rfl,hx⟩;have hN3:NumAt b3 0 _:=⟨_,hB3,rfl,IsNum.zero⟩;have hl1:w.heap.size≤_:=E0.size
 refine zLr rfl rfl hb213 (by decide) (fun i w'=>Ext w w'∧NumAt b1 x w'∧Blk w' b2 37 [Value.bool false,Value.slice none 0 0,Value.slice none 0 0]∧Blk w' bx 25 [.slice pp p.length pc]∧∃ acc,NumAt b3 acc w'∧evalL x (p.take (p.length-i)).reverse acc=some y) (fun _ _=>True) p.length (encB p)
  (fun i args w1 h=>by obtain ⟨v,e,_⟩:=h;rw [e];rfl)
  (fun w1 hE=>⟨E0.trans hE,hNX.ext hE,hB2.ext hE,hBx.ext hE,0,hN3.ext hE,by rw [Nat.sub_zero,List.take_length];exact h⟩)
  (fun i w1 w2 hI hE=>by obtain ⟨g1,g2,g3,g4,acc,g5,g6⟩:=hI;exact ⟨g1.trans hE,g2.ext hE,g3.ext hE,g4.ext hE,acc,g5.ext hE,g6⟩)
  (fun i l w1 w2 hl hI hO=>by obtain ⟨g1,g2,g3,g4,acc,g5,g6⟩:=hI;exact ⟨g1.oth hO (by omega),g2.le hO.le,g3.oth hO,g4.oth hO,acc,g5.le hO.le,g6⟩)
  (fun l J hJe hJi hy w1 _ h0=>backward1_ok hpl l J (fun i w2 hJ=>by obtain ⟨g1,g2,g3,g4,_⟩:=hJi i w2 hJ;exact ⟨g4,hpP.ext g1⟩) hy w1 h0)
  ?_ ?_
 clear E0 hB1 hB2 hB3 hBx hx hNX hN3 h
 · rintro l i args w1 hl hi ⟨E0,hNX,hB2,hBx,acc,hN3,hA⟩ ⟨c,rfl,N11⟩;obtain ⟨m,hm⟩:∃ m,p.length-i=m+1:=⟨p.length-i-1,by omega⟩;rw [show p.length-1-i=m from by omega] at N11 ⊢;rw [hm,zEc (by omega),List.reverse_append] at hA;unfold evalL at hA;obtain ⟨t1,ht1,hA⟩:=bind_some hA;obtain ⟨t2,ht2,hA⟩:=bind_some hA;obtain ⟨hr1,rfl⟩:=zDI ht1;obtain ⟨hr2,rfl⟩:=zFW ht2;refine wpe_k [(3,.pointer (some ⟨b1,0,none⟩)),(5,.pointer (some ⟨b3,0,none⟩)),(11,c)] (kp rfl) ?_;have hw1:=E0.size;refine K6 fun K => ?_;refine K1 (zd zAa fun bc2 w7 hb hE hBc hs => ?_);have hgc:w.heap.size≤bc2:=by rw [hb];exact hw1
   have hd3:bc2≠b3:=by have:=hN3.lt;omega
   have hd1:b1≠bc2:=by have:=hNX.lt;omega
   have hd2:b2≠bc2:=by have:=hB2.lt;omega
   have hd4:bx≠bc2:=by have:=hBx.lt;omega
   have hNC:=NC.ext hE;replace E0:=E0.trans hE;replace N11:=N11.ext hE;replace hNX:=hNX.ext hE;replace hB2:=hB2.ext hE;replace hBx:=hBx.ext hE;replace hN3:=hN3.ext hE;clear hE hb hs;refine K1 (zK rfl N11 (Cell3.of hBc rfl) fun _ w9 hU hNA => ?_);replace hNC:=hNC.trans (NC.upd hU hBc);replace E0:=E0.upd hU hgc;replace hNX:=hNX.upd hU hBc hd1;replace hB2:=hB2.upd hU hd2;replace hBx:=hBx.upd hU hd4;replace hN3:=hN3.upd hU hBc (Ne.symm hd3);clear hU hBc N11;refine rl K ⟨rfl,rfl,hNC,fun w5 hO => ?_⟩;replace E0:=E0.oth hO (by omega);replace hNX:=hNX.le hO.le;replace hB2:=hB2.oth hO;replace hBx:=hBx.oth hO;replace hN3:=hN3.le hO.le;replace hNA:=hNA.le hO.le;clear hO hNC;refine zD ?_;have hnw:NoW [b3] _:=hN3.now;have hN3c:=hN3;obtain ⟨cs3,hb3',-,-⟩:=hN3c;refine zDm [⟨5,b3,NumAt b3 acc,NumAt b3 (acc*x+p.getD m 0)⟩] [([(5,none)],none),([(3,none)],none),([(12,some 1),(13,some 0)],none),([(7,none)],none),([(14,some 1),(15,some 0)],none),([(5,none),(16,some 0)],none)] mixed (by kernel_rfl) (by kernel_rfl) (by kernel_rfl) (by simp) (by kernel_rfl) (by kernel_rfl) (all1 (numStOkB hN3)) fun K hK => ?_;refine dbn (fun v w'=>IsNum w' v acc) rfl (fun _ _ _ h1 hx h=>h.extS hx (hnw.ext h1)) (fun σ wx hE hp hk=>zR hk.1 (hp _ (List.mem_singleton.2 rfl) (by show _<(5:Nat);decide)) fun v h=>⟨Ext.refl _,h⟩) ?_
   refine dbn (fun v w'=>IsNum w' v x) rfl (fun _ _ _ h1 hx h=>h.extS hx (hnw.ext h1)) (fun σ wx hE hp hk=>zR hk.1 (hNX.extS hE (nin1 ne_b1_b3) hnw) fun v h=>⟨Ext.refl _,h⟩) (dbn (fun v w'=>IsNum w' v (acc*x)) rfl (fun _ _ _ h1 hx h=>h.extS hx (hnw.ext h1)) (fun σ wx hE hp hk=>zH hb101 (CallK.of_ret (zHe hk.1 hk.2.1 hr1) fun v w2 hX hr=>⟨hX,hr⟩) rfl) (dbn (fun v w'=>IsNum w' v (p.getD m 0)) rfl (fun _ _ _ h1 hx h=>h.extS hx (hnw.ext h1)) (fun σ wx hE hp hk=>zR hk.1 (hNA.extS hE (nin1 hd3) hnw) fun v h=>⟨Ext.refl _,h⟩) (dbn (fun v w'=>IsNum w' v (acc*x+p.getD m 0)) rfl (fun _ _ _ h1 hx h=>h.extS hx (hnw.ext h1)) (fun σ wx hE hp hk=>zH hb146 (CallK.of_ret (zJg hk.1 hk.2.1 hr2) fun v w2 hX hr=>⟨hX,hr⟩) rfl) (dbs _ rfl (fun σ wx hE hpre hk=>zAy hk.1 hk.2.1 hpre.cell) (zLz (hK _ fun wq hS hP => ?_))))));rintro v12 N12 v13 N13 v14 N14 v15 N15 v16 N16 _ _;refine zn ?_;obtain ⟨hN4,-⟩:=hP;replace E0:=E0.updS hS hgb3;replace hNX:=hNX.extS hS (nin1 ne_b1_b3) hnw;replace hB2:=hB2.extS hS (nin1 ne_b2_b3);replace hBx:=hBx.extS hS (nin1 hx3);refine zS ?_;refine ⟨rfl,NC.extS hS hb3',fun w8 hO=>⟨⟨E0.oth hO (by omega),hNX.le hO.le,hB2.oth hO,hBx.oth hO,_,hN4.le hO.le,by rw [show p.length-(i+1)=m from by omega];exact hA⟩,trivial⟩⟩
 · rintro D w2 hD ⟨E0,hNX,hB2,hBx,acc,hN3,hA⟩ hDf;rw [Nat.sub_self] at hA;obtain rfl:acc=y:=Option.some.inj hA;refine zS (zN (rj fun K=>K1 (zR rfl hN3 fun v17 N17=>K1 (zK rfl N17 (Cell3.of hB2 rfl) fun _ w9 hU hN => ?_))));replace hDf:=NC.upd hU hB2 _ _ hDf rfl;replace E0:=E0.upd hU hgb2;obtain ⟨cs,hB4,hl4,hN4⟩:=hN;refine rm [4] K ?_;exact zB (zQ (⟨D,_,rfl,hDf,fun w2 hO=>⟨zAD rfl rfl rfl zz (hB4.oth hO) hl4,E0.oth hO (by omega),hN4.le hO.le⟩⟩))
end Go.Proofs.YtjiendlfobjanaaGreatDoor
namespace Go.Proofs.YtjiendlfobjanaaGreatDoor
open Go Go.RowKit Go.Proofs Tryz
variable {A A':List Rat} {af:Array Edge} {b c i:Nat} {g:Option (Nat×Bool)} {pos:String} {r:Option Nat} {ty:TypeId} {v:Value} {w w' w0:World} {σ:Operand→Value}
def AccB (b c:Nat) (w:World) (A:List Rat):Prop:=∃ cs,Blk w b 37 cs∧cs.length=3*c∧∀ i,i<A.length→IsNum w (.agg ((cs.drop (3*i)).take 3).toArray) (A.getD i 0)
theorem AccP.cases {sz:Nat} (h:AccP sz w v A) :
 (∃ b c,v = .slice (some ⟨b,0,none⟩) A.length c∧A.length+1≤c∧sz≤b∧AccB b c w A)∨(∃ p c,v = .slice p A.length c∧c<A.length+1):=by
 obtain ⟨p,c,h1,h2,h3⟩:=h;by_cases hc:A.length+1≤c
 · rcases h3 with ⟨e1,e2,e3⟩ | ⟨b,cs,e1,e2,e3,e4,e5⟩
   · omega
   · exact .inl ⟨b,c,by rw [h1,e1],hc,e2,cs,e3,e4,e5⟩
 · exact .inr ⟨p,c,h1,by omega⟩
theorem AccB.acc {sz:Nat} (h:AccB b c w A) (hs:sz≤b) (hc:A.length≤c):AccP sz w (.slice (some ⟨b,0,none⟩) A.length c) A:=by
 obtain ⟨cs,h1,h2,h3⟩:=h;exact ⟨_,c,rfl,hc,.inr ⟨b,cs,rfl,hs,h1,h2,h3⟩⟩
theorem accStOk (hB:AccB b c w0 A) :
 (⟨i,b,fun w=>AccB b c w A,fun w=>AccB b c w A'⟩:StoreSpec).blk<w0.heap.size∧(⟨i,b,fun w=>AccB b c w A,fun w=>AccB b c w A'⟩:StoreSpec).pre w0∧∀ w w',ExtS [b] w0 w→ExtS [b] w w'→w'.heap[(⟨i,b,fun w=>AccB b c w A,fun w=>AccB b c w A'⟩:StoreSpec).blk]? = w.heap[(⟨i,b,fun w=>AccB b c w A,fun w=>AccB b c w A'⟩:StoreSpec).blk]? →
  ((⟨i,b,fun w=>AccB b c w A,fun w=>AccB b c w A'⟩:StoreSpec).pre w→(⟨i,b,fun w=>AccB b c w A,fun w=>AccB b c w A'⟩:StoreSpec).pre w')∧((⟨i,b,fun w=>AccB b c w A,fun w=>AccB b c w A'⟩:StoreSpec).post w→(⟨i,b,fun w=>AccB b c w A,fun w=>AccB b c w A'⟩:StoreSpec).post w'):=by
 have key:∀ (w w':World) (L:List Rat),ExtS [b] w w'→w'.heap[b]? = w.heap[b]?→AccB b c w L→AccB b c w' L:=fun w w' L hx he h=>by
  obtain ⟨cs,h1,h2,h3⟩:=h;exact ⟨cs,by show w'.heap[b]? = _;rw [he];exact h1,h2,fun i hi=>(h3 i hi).extS hx (noW1 h1 (by decide))⟩
 have hlt:b<w0.heap.size:=by obtain ⟨cs,h1,_⟩:=hB;exact h1.lt
 exact ⟨hlt,hB,fun w w' _ hx he=>⟨key w w' A hx he,key w w' A' hx he⟩⟩
theorem AccB.now (h:AccB b c w A):NoW [b] w:=by obtain ⟨cs,h1,_⟩:=h;exact noW1 h1 (by decide)
def OneR (sz:Nat) (q:Rat) (v:Value) (w:World):Prop:=∃ b c1 c2 c3,v = .slice (some ⟨b,0,none⟩) 1 1∧sz≤b∧Blk w b 37 [c1,c2,c3]∧IsNum w (.agg #[c1,c2,c3]) q
theorem OneR.ext {sz:Nat} {q:Rat} (h:OneR sz q v w) (hx:Ext w w'):OneR sz q v w':=by
 obtain ⟨b,c1,c2,c3,h1,h2,h3,h4⟩:=h;exact ⟨b,c1,c2,c3,h1,h2,h3.ext hx,h4.ext hx⟩
theorem OneR.extS {sz:Nat} {q:Rat} (h:OneR sz q v w) (hx:ExtS [b] w w') (hb:b<sz) (hS:NoW [b] w):OneR sz q v w':=by
 obtain ⟨b',c1,c2,c3,h1,h2,h3,h4⟩:=h;exact ⟨b',c1,c2,c3,h1,h2,h3.extS hx (by simp;omega),h4.extS hx hS⟩
section laws
variable {d:Option Tmp}
theorem runs_one {sz:Nat} {y:Operand} {q:Rat} (hy:IsNum w (σ y) q) (hs:sz≤w.heap.size):Runs prog r ⟨d,.buildSlice 25 1 #[(0,y)],ty,pos,af,g⟩ σ w (fun v w'=>Ext w w'∧OneR sz q v w'):=by
 have hy0:=hy;obtain ⟨n,dd,he,hn,hd⟩:=hy;rw [he] at hy0;refine zc (cs:=[.bool (decide (q<0)),n,dd]) zAb info37' (by decide) (by decide) ?_ fun b w' hb hE hB hs'=>⟨hE,b,_,_,_,rfl,by omega,hB,hy0.ext hE⟩;show Instr.fill _ _ [(0,σ y)]=_;rw [he]
 kernel_rfl
theorem runs_appE_in {x y:Operand} {sz:Nat} {q:Rat} (hx:σ x = .slice (some ⟨b,0,none⟩) A.length c) (hc:A.length+1≤c) (hB:AccB b c w A) (hy:OneR sz q (σ y) w) :
 Runs prog r ⟨d,.call { callee := .builtin .append,args := #[x,y],argTypes := #[25,25] },ty,pos,af,g⟩ σ w (fun v w'=>ExtS [b] w w'∧AccB b c w' (A++[q])∧v = .slice (some ⟨b,0,none⟩) (A++[q]).length c):=by
 obtain ⟨cs,h1,h2,h3⟩:=hB;obtain ⟨b2,c1,c2,c3,e1,_,e2,hq⟩:=hy;have hok:[c1,c2,c3].all zDB=true:=by
  obtain ⟨n,dd,he,hn,hd⟩:=hq;obtain ⟨p1,ds1,k1,rfl,-⟩:=hn;obtain ⟨p2,ds2,k2,rfl,-⟩:=hd;cases he;rfl
 refine zBC (n:=3) zAb zAb zEX hx e1 h1 (Cells.blk e2) rfl hc (by omega) hok fun w' hU hN=>⟨hU.toS (by simp),?_,by simp⟩;rw [Nat.zero_add,show A.length*3=3*A.length from by omega] at hN;refine ⟨_,hN,by rw [zAz];exact h2,fun i hi => ?_⟩;by_cases hi':i<A.length
 · rw [zBM (by omega),if_neg (by omega),zDY hi'];exact (h3 i hi').upd hU h1 (by decide)
 · have:i=A.length:=by simp at hi;omega
   subst this;rw [zBM (by omega),if_pos rfl,zDX];exact hq.upd hU h1 (by decide)
theorem runs_appE_grow {x y:Operand} {p:Option Addr} {sz0 sz sz2:Nat} {q:Rat} (hx:σ x = .slice p A.length c) (hA:AccP sz0 w (.slice p A.length c) A) (hc:c<A.length+1) (hy:OneR sz2 q (σ y) w) (hl:A.length<4096) (hs:sz≤w.heap.size) :
 Runs prog r ⟨d,.call { callee := .builtin .append,args := #[x,y],argTypes := #[25,25] },ty,pos,af,g⟩ σ w (fun v w'=>Ext w w'∧AccP sz w' v (A++[q])):=by
 obtain ⟨b2,c1,c2,c3,e1,_,e2,hq⟩:=hy;obtain ⟨p',c',h1,h2,h3⟩:=hA;cases h1;have hnew:=zAi (A.length+1) c;have hold:∃ old,Cells w p 37 old∧old.length=A.length*3∧∀ i,i<A.length→IsNum w (.agg ((old.drop (3*i)).take 3).toArray) (A.getD i 0):=by
  rcases h3 with ⟨e1,e2,e3⟩ | ⟨b,cs,e1,e2,e3,e4,e5⟩
  · subst e1;exact ⟨[],.inl rfl,rfl,fun i hi=>by simp at hi⟩
  · refine ⟨cs.take (A.length*3),.inr ⟨b,0,cs,e1,e3,by simp⟩,by simp;omega,fun i hi => ?_⟩;have:=e5 i hi;rwa [show ((cs.take (A.length*3)).drop (3*i)).take 3=(cs.drop (3*i)).take 3 from by
     rw [List.drop_take,List.take_take,Nat.min_eq_left (by omega)]]
 obtain ⟨old,o1,o2,o3⟩:=hold;refine zAW zAb zAb zEX rfl (by decide) hx e1 o1 o2 (Cells.blk e2) rfl (by omega) (by omega) fun w' rest c' g1 hE hB g2 _=>⟨hE,?_⟩;have hrl:rest.length=(c'-(A.length+1))*3:=by rw [g2];simp [Builtin.zeroCells,Value.cells]
 refine ⟨_,c',by simp,by simpa using g1,.inr ⟨w.heap.size,_,rfl,hs,hB,by simp [o2,hrl];omega,fun i hi => ?_⟩⟩;by_cases hi':i<A.length
 · rw [zDY hi',List.append_assoc,zDH (by omega)];exact (o3 i hi').ext hE
 · have:i=A.length:=by simp at hi;omega
   subst this;rw [zDX,List.append_assoc,List.drop_append_of_le_length (by omega),List.drop_of_length_le (by omega)];simpa using hq.ext hE
end laws
end Go.Proofs.YtjiendlfobjanaaGreatDoor
namespace Go.Proofs.YtjiendlfobjanaaGreatDoor
open Go Go.RowKit Go.Proofs Tryz
set_option maxRecDepth 10000
set_option maxHeartbeats 2000000
attribute [local irreducible] Runs WPE CallK Ret
variable {v:Value} {w:World}
theorem zGb {p s:List Rat} (hp:zO w v p) (h:zDv p=some s):Ret prog 256 #[v] w (fun r w'=>IsOwn w.heap.size w' r s):=by
 obtain ⟨pp,pc,rfl,hpc,hpP,hpl⟩:=hp;obtain ⟨L,hL,hLs⟩:=map_some h;have E0:Ext w w:=Ext.refl w;refine J0 25 func256 rfl (rj fun K=>ag (rm [0] K ?_));refine rj fun K=>ag (rm [0,3] K ?_);refine zA (rJ fun K=>K1 (zG zAB rfl (mv (rm [3,6,7,8] K ?_))));refine zD (ze (X:=Nat) (fun i ρ w'=>∃ v3 A,Keep ρ [(3,v3),(6,.slice pp p.length pc),(7,.int .i64 (p.length:Nat)),(8,.int .i64 (i:Nat))]∧i≤p.length∧Ext w w'∧AccP w.heap.size w' v3 A∧A.length≤i∧∃ B,zEE (p.drop i) i=some B∧A++B=L) (fun i=>p.length-i) 0 ⟨_,[],(kp rfl),Nat.zero_le _,E0,AccP.nil,Nat.le_refl _,L,hL,rfl⟩ ?_);clear E0 hL;rintro i ρ1 w1 ⟨v3,A,hk,hil,E0,hA,hAl,⟨B,hB,hAB0⟩⟩;refine wpe_k _ hk ?_;clear hk ρ1;refine rj fun K=>K8 rfl (rm [3,6,7,8,9] K ?_);refine zA ?_;refine K0 rfl ?_ ?_<;>intro hc
 · have hlt:i<p.length:=t_lt hc;clear hc;have hq1:=hpP.ext E0;rw [zEK hlt] at hB;unfold zEE at hB;refine sk (zA (zD (rJ fun K=>K1 (zAL (l:=p) hq1 rfl rfl hlt (K1 (zAS hq1 hlt rfl fun v23 N23 => ?_))))));refine K1 (zd zAa fun bc2 w7 hb hE hBc hs => ?_);have hgc:w.heap.size≤bc2:=by rw [hb];exact E0.size
   have hna:=hA.new (c:=bc2) (by omega);replace E0:=E0.trans hE;replace N23:=N23.ext hE;replace hA:=hA.ext hE;clear hE hb hs;refine ag (K1 (zK rfl N23 (Cell3.of hBc rfl) fun _ w9 hU hNA => ?_));replace E0:=E0.upd hU hgc;replace hA:=hA.upd hU hBc hna;clear hU hBc N23;refine rm [3,4,5,6,7,8] K ?_;refine rJ fun K=>K8 rfl (rm [3,4,5,6,7,8,14] K ?_);refine K0 rfl ?_ ?_<;>intro hc
   · have hi0:i≠0:=by have:=of_decide_eq_true hc;omega
     clear hc;rw [if_neg hi0] at hB;obtain ⟨m,hm,hB⟩:=bind_some hB;obtain ⟨hr1,rfl⟩:=zDI hm;obtain ⟨B2,hB2,hB⟩:=bind_some hB;cases hB;rcases hA.cases with ⟨ab,ac,hv3,hac,hsb,hAB⟩ | ⟨ap,ac,hv3,hac⟩
     · skip
       have hnw:NoW [ab] _:=hAB.now;have hlt9:ab<w9.heap.size:=by obtain ⟨_,hab,_⟩:=hAB;exact hab.lt
       have hne6:bc2≠ab:=Ne.symm (hna ab ac hv3);subst hv3
       refine zKo [⟨6,ab,fun w=>AccB ab ac w A,fun w=>AccB ab ac w (A++[p.getD i 0*(i:Rat)])⟩] [([(3,none)],none),([(5,none)],none),([(4,none)],none),([(17,some 0)],none),([(16,some 2),(18,some 0)],none),([(19,some 0)],none),([(15,some 5),(20,some 0)],none),([(21,some 0)],none)] mixed (by kernel_rfl) (by kernel_rfl) (by kernel_rfl) (by simp) (by kernel_rfl) (all1 (accStOk hAB)) fun K hK=>dev rfl (fun σ wx hE hk=>zC ⟨Ext.refl _,hk.1⟩) (den (fun v w'=>IsNum w' v (p.getD i 0)) rfl (fun _ _ _ h1 hx h=>h.extS hx (hnw.ext h1)) (fun σ wx hE hk=>zR hk.1 (hNA.extS hE (nin1 hne6) hnw) fun v h=>⟨Ext.refl _,h⟩) (dev rfl (fun σ wx hE hk=>zC ⟨Ext.refl _,hk.1⟩) (den (fun v w'=>IsNum w' v (i:Rat)) rfl (fun _ _ _ h1 hx h=>h.extS hx (hnw.ext h1)) (fun σ wx hE hk=>zH hb38 (CallK.eq1 hk.1 (CallK.of_ret (zDO (n:=((i:Nat):Int)) (by omega) (by omega)) fun v w2 hX hr=>⟨hX,hr⟩)) rfl) (den (fun v w'=>IsNum w' v (p.getD i 0*(i:Rat))) rfl (fun _ _ _ h1 hx h=>h.extS hx (hnw.ext h1)) (fun σ wx hE hk=>zH hb101 (CallK.of_ret (zHe hk.1 hk.2.1 hr1) fun v w2 hX hr=>⟨hX,hr⟩) rfl) (den (OneR w9.heap.size (p.getD i 0*(i:Rat))) rfl (fun _ _ _ h1 hx h=>h.extS hx hlt9 (hnw.ext h1)) (fun σ wx hE hk=>runs_one hk.1 hE.size) (des _ (fun v _=>v = .slice (some ⟨ab,0,none⟩) (A++[p.getD i 0*(i:Rat)]).length ac) rfl (fun _ _ _ _ _ h=>h) (fun σ wx hE hpre hk=>runs_appE_in hk.1 hac hpre hk.2.1) (dev rfl (fun σ wx hE hk=>zZ ⟨Ext.refl _,hk.1⟩) (zNA (hK _ fun wq hS hP => ?_)))))))))
       rintro _ rfl v16 N16 _ rfl v18 N18 v19 N19 v20 N20 _ rfl _ rfl;refine zn ?_;obtain ⟨hB2',-⟩:=hP;replace E0:=E0.updS hS hsb;have hA':=hB2'.acc hsb (show (A++[p.getD i 0*(i:Rat)]).length≤ac by simp;omega);have hAl':(A++[p.getD i 0*(i:Rat)]).length≤i+1:=by simp;omega
       have hB':∃ B,zEE (p.drop (i+1)) (i+1)=some B∧(A++[p.getD i 0*(i:Rat)])++B=L:=⟨B2,hB2,by rw [List.append_assoc];exact hAB0⟩;refine zS (zN (K5 [3,6,7,8] ?_));exact K6 fun K=>K8 rfl (mv (rl K (zP (⟨rfl,i+1,⟨_,_,⟨rfl,rfl,rfl,rfl,rfl,rfl,rfl,congrArg (Value.int .i64) (zx (by omega)),trivial⟩,by omega,E0,hA',hAl',hB'⟩,by omega⟩))))
     · skip
       have hsz9:=E0.size;subst hv3
       refine zAY [([(3,none)],none),([(5,none)],none),([(4,none)],none),([(17,some 0)],none),([(16,some 2),(18,some 0)],none),([(19,some 0)],none),([(15,some 5),(20,some 0)],none),([(21,some 0)],none)] mixed (by kernel_rfl) (by kernel_rfl) (by kernel_rfl) fun K hK=>dvp (fun σ wx hE hk=>zC ⟨Ext.refl _,hk.1⟩) (dcp (fun v w'=>IsNum w' v (p.getD i 0)) (fun _ _ _ _ hx h=>h.ext hx.toExt) (fun σ wx hE hk=>zR hk.1 (hNA.ext hE) fun v h=>⟨Ext.refl _,h⟩) (dvp (fun σ wx hE hk=>zC ⟨Ext.refl _,hk.1⟩) (dcp (fun v w'=>IsNum w' v (i:Rat)) (fun _ _ _ _ hx h=>h.ext hx.toExt) (fun σ wx hE hk=>zH hb38 (CallK.eq1 hk.1 (CallK.of_ret (zDO (n:=((i:Nat):Int)) (by omega) (by omega)) fun v w2 hX hr=>⟨hX,hr⟩)) rfl) (dcp (fun v w'=>IsNum w' v (p.getD i 0*(i:Rat))) (fun _ _ _ _ hx h=>h.ext hx.toExt) (fun σ wx hE hk=>zH hb101 (CallK.of_ret (zHe hk.1 hk.2.1 hr1) fun v w2 hX hr=>⟨hX,hr⟩) rfl) (dcp (OneR w9.heap.size (p.getD i 0*(i:Rat))) (fun _ _ _ _ hx h=>h.ext hx.toExt) (fun σ wx hE hk=>runs_one hk.1 hE.size) (dcp (fun v w'=>AccP w.heap.size w' v (A++[p.getD i 0*(i:Rat)])) (fun _ _ _ _ hx h=>h.ext hx.toExt) (fun σ wx hE hk=>runs_appE_grow hk.1 (hA.ext hE) hac hk.2.1 (by omega) (E0.trans hE).size) (dcp (fun v w'=>AccP w.heap.size w' v (A++[p.getD i 0*(i:Rat)])) (fun _ _ _ _ hx h=>h.ext hx.toExt) (fun σ wx hE hk=>zZ ⟨Ext.refl _,hk.1⟩) (zBW (hK _ fun wq hE => ?_)))))))))
       rintro _ rfl v16 N16 _ rfl v18 N18 v19 N19 v20 N20 v21 N21 v3 N3;refine zn ?_;replace E0:=E0.trans hE;clear hE;refine zS (zN (K5 [3,6,7,8] ?_));have hA':=N3;have hAl':(A++[p.getD i 0*(i:Rat)]).length≤i+1:=by simp;omega
       have hB':∃ B,zEE (p.drop (i+1)) (i+1)=some B∧(A++[p.getD i 0*(i:Rat)])++B=L:=⟨B2,hB2,by rw [List.append_assoc];exact hAB0⟩;exact K6 fun K=>K8 rfl (mv (rl K (zP (⟨rfl,i+1,⟨_,_,⟨rfl,rfl,rfl,rfl,rfl,rfl,rfl,congrArg (Value.int .i64) (zx (by omega)),trivial⟩,by omega,E0,hA',hAl',hB'⟩,by omega⟩))))
   · have hi0:i=0:=by have:=of_decide_eq_false hc;omega
     clear hc;rw [if_pos hi0] at hB;have hA':=hA;have hAl':A.length≤i+1:=by omega
     have hB':∃ B,zEE (p.drop (i+1)) (i+1)=some B∧A++B=L:=⟨B,by rw [hi0] at hB ⊢;exact hB,hAB0⟩;exact zm (zS (zN (K6 fun K=>K8 rfl (mv (rl K (zP (⟨rfl,i+1,⟨_,_,⟨rfl,rfl,rfl,rfl,rfl,rfl,rfl,congrArg (Value.int .i64) (zx (by omega)),trivial⟩,by omega,E0,hA',hAl',hB'⟩,by omega⟩)))))))
 · have hge:=f_lt hc;obtain rfl:i=p.length:=by omega
   clear hc;rw [List.drop_length] at hB;cases hB;rw [List.append_nil] at hAB0;subst hAB0;refine zV (zv (zi (zL (zN (rj fun K=>mv ?_)))));have hsz:=E0.size;refine K1 (j0 E0 hb34 (zCB (hA.own (by omega)).poly) fun v9 w9 E0 hr => ?_);rw [hLs] at hr;refine ag (rm [2,6,7,8] K ?_);exact zB (en rfl E0 (hr.sz hsz))
variable {bx cap i:Nat} {l:List Rat} {u:Value} {x y:Rat}
theorem rsign_bound (x:Rat) : -1≤rsign x∧rsign x≤1:=by
 unfold rsign;rcases Int.lt_trichotomy x.num 0 with a | a | a
 · rw [Int.sign_eq_neg_one_of_neg a];decide
 · rw [a];decide
 · rw [Int.sign_eq_one_of_pos a];decide
theorem PRd.one {p:Option Addr} (h:PRd w p l) (hi:i<l.length) (hc:l.length≤cap):zO w (.slice (if cap=i then p else p.map (fun a=>a.add (i*3))) 1 (cap-i)) [l.getD i 0]:=by
 rcases h with h | ⟨b,o,cs,h1,h2,h3,h4⟩
 · subst h;simp at hi
 · refine ⟨_,_,rfl,by simp;omega,.inr ⟨b,o+3*i,cs,?_,h2,by simp;omega,fun j hj => ?_⟩,by simp⟩
   · rw [if_neg (by omega),h1];simp [zAu,Nat.mul_comm]
   · have:j=0:=by simp at hj;omega
     subst this;have:=h4 i hi;simpa using this
theorem simple_ok {p s:List Rat} (hp:zO w v p) (h:zLg p=some s):Ret prog 312 #[v] w (fun r w'=>IsOwn w.heap.size w' r s):=by
 obtain ⟨d,h1,h⟩:=bind_some h;obtain ⟨g,h2,h3⟩:=bind_some h;have E0:Ext w w:=Ext.refl w;refine J0 9 func312 rfl (rj fun K=>ag (rm [0] K ?_));refine rJ fun K=>mv (mv (K1 (j1 E0 hp.ext hb256 (zGb hp h1) fun v6 w2 E0 hp N6=>K1 (j1 E0 hp.ext hb168 (zFJ hp N6.poly h2) fun v7 w2 E0 hp N7 => ?_))));have hsz:=E0.size;refine K1 (j0 E0 hb170 (zEg hp N7.poly h3) fun v8 w2 E0 N8=>ag (rm [2] K ?_));exact zB (en rfl E0 (N8.sz hsz))
theorem ends1_ok {p:List Rat} {bm:Nat} {m:Bool} (hp:zO w v p) (h0:p≠[]) (hB:Blk w bm 4 [.bool m]):Ret prog 258 #[v,.pointer (some ⟨bm,0,none⟩)] w (fun u _=>u = .int .i64 (endS m p)):=by
 have hp0:=hp;obtain ⟨pp,pc,rfl,hpc,hpP,hpl⟩:=hp0;refine J0 18 func258 rfl (rj fun K=>ag (rm [0,1] K ?_));refine rJ fun K=>K1 (j1 E0 hB.ext hb259 (zLv hp h0) fun v6 w2 E0 hB N6=>K1 (zH hb19 (CallK.of_ret (zAg N6) fun v7 w3 hE hr => ?_) rfl));subst hr;replace E0:=E0.trans hE;replace hB:=hB.ext hE;clear hE N6;refine ag (rm [0,1,4] K ?_);refine zA (zA ?_);rcases m with _ | _
 · skip
   refine K6 fun K=>K1 (zI zCj rfl hB rfl (mv (K3 (K3 (K3 (K3 (pk rfl (rs [4,14] K ?_))))))));refine wcf rfl (sk (rJ fun K=>ag (rm [3] K ?_)));refine zB (zQ ?_);exact ⟨rfl,_,zg rfl rfl,E0,by rw [endS,if_neg (by simp)];rfl⟩
 · skip
   refine K6 fun K=>K1 (zI zCj rfl hB rfl (mv (K7 (K2 (zG zAB rfl (K2 (zAP (b:=2) (p.length%2) rfl rfl (by decide) rfl (K2 (zF rfl rfl rfl (pk rfl (rs [4,14] K ?_)))))))))));refine K0 rfl ?_ ?_<;>intro hc
   · have hm:p.length%2=0:=by have:=eq_of_beq hc;omega
     clear hc;refine rI fun K=>K1 (zKQ rfl ?_);rw [show IntKind.i64.wrap (0-rsign (top p)) = - rsign (top p) from by have:=rsign_bound (top p);rw [zj (by omega) (by omega)];omega];refine ag (rs [4] K ?_);refine rJ fun K=>ag (rm [3] K ?_);refine zB (zQ ?_);exact ⟨rfl,_,zg rfl rfl,E0,by rw [endS];simp [hm,look1]⟩
   · have hm:¬ p.length%2=0:=by have:=beq_eq_false_iff_ne.1 hc;omega
     clear hc;refine sk (rJ fun K=>ag (rm [3] K ?_));refine zB (zQ ?_);exact ⟨rfl,_,zg rfl rfl,E0,by rw [endS];simp [hm,look1]⟩
theorem zHN {m:Bool}:Ret prog 173 #[.bool m] w (fun r w'=>∃ bm,r = .func (.func 258) #[] #[.pointer (some ⟨bm,0,none⟩)]∧Blk w' bm 4 [.bool m]):=by
 refine J0 4 func173 rfl (rj fun K => ?_);refine K1 (zAA fun b1 w1 hb hE hB1 hs => ?_);have hgb1:w.heap.size≤b1:=by rw [hb];exact E0.size
 replace E0:=E0.trans hE;clear hE hs hb;refine ag (rm [1] K ?_);refine rj fun K=>K1 (zBv (ag (rm [2] K ?_)));exact zB (en rfl E0 ⟨b1,rfl,hB1⟩)
theorem at1_ok {p:List Rat} (hp:zO w v p) (hN:NumAt bx x w) (h:peval p x=some y):Ret prog 350 #[v,.pointer (some ⟨bx,0,none⟩)] w (fun u _=>u = .int .i64 (rsign y)):=by
 refine J0 8 func350 rfl (rj fun K=>ag (rm [0,1] K ?_));refine rJ fun K=>K1 (zR rfl hN fun v5 N5=>K1 (j0 E0 hb176 (zCD hp N5 h) fun v6 w2 E0 N6=>K1 (zH hb19 (CallK.of_ret (zAg N6) fun v7 w3 hE hr => ?_) rfl)));subst hr;replace E0:=E0.trans hE;clear hE N6;refine ag (rm [3] K ?_);exact zB (en rfl E0 rfl)
theorem at_ok (hx:IsNum w v x):Ret prog 315 #[v] w (fun r w'=>∃ bx,r = .func (.func 350) #[] #[.pointer (some ⟨bx,0,none⟩)]∧NumAt bx x w'):=by
 have hx0:=hx;obtain ⟨xn,xd,rfl,hxn,hxd⟩:=hx0;refine J0 4 func315 rfl (rj fun K => ?_);refine K1 (zAA fun b1 w1 hb hE hB1 hs => ?_);have hgb1:w.heap.size≤b1:=by rw [hb];exact E0.size
 replace E0:=E0.trans hE;replace hx:=hx.ext hE;clear hE hs hb;refine ag (rm [1] K ?_);refine rj fun K=>K1 (zBv (ag (rm [2] K ?_)));exact zB (zQ (⟨rfl,_,zg rfl rfl,E0,b1,rfl,⟨_,hB1,rfl,hx⟩⟩))
theorem zDq {p m:List Rat} (hp:zO w v p) (h:zDe p=some m):Ret prog 313 #[v] w (fun r w'=>IsOwn w.heap.size w' r m):=by
 have E0:Ext w w:=Ext.refl w;refine J0 16 func313 rfl (rj fun K=>ag (rm [0] K ?_));refine zA (rJ fun K=>K1 (zH hb34 (CallK.of_ret (zCB hp) fun v4 w4 hE hT => ?_) rfl));have hsz:=E0.size;replace E0:=E0.trans hE;clear hE;have hT0:=hT;obtain ⟨tp,tc,rfl,htc,hTP,htl,_⟩:=hT0;refine ag (rm [0] K ?_);refine rJ fun K=>K1 (zG zAB rfl (K8 rfl (rm [0,7] K ?_)));refine K0 rfl ?_ ?_<;>intro hc
 · have h0:trim p≠[]:=fun e=>by rw [e] at hc;cases hc
   clear hc;rw [zDe,if_neg h0] at h;obtain ⟨c,hd,hs⟩:=bind_some h;obtain ⟨hr1,rfl⟩:=zDC hd;have hT:=hT.poly;refine rI fun K=>K1 (j1 E0 hT.ext hb38 (zDO (n:=1) (by decide) (by decide)) fun v9 w9 E0 hT N9=>mv (K1 (j2 E0 hT.ext N9.ext hb259 (zLv hT h0) fun v11 w11 E0 hT N9 N11=>K1 (j2 E0 hT.ext N9.ext hb236 (zPq N11) fun v12 w11 E0 hT N9 N12=>K1 (j1 E0 hT.ext hb311 (zKq N9 N12 hr1) fun v13 w12 E0 hT N13=>K1 (zH hb56 (CallK.of_ret (zDn hT N13 hs) fun v14 w13 hE hr => ?_) rfl))))));have hsz2:=E0.size;replace E0:=E0.trans hE;clear hE hT;have hT:=hr.sz hsz2;refine ag (rs [0] K ?_);refine rJ fun K=>ag (rm [2] K ?_);exact zB (en rfl E0 hT)
 · have h0:trim p=[]:=List.eq_nil_of_length_eq_zero (by have:=of_decide_eq_false hc;omega);clear hc;rw [zDe,if_pos h0] at h;obtain rfl:m=trim p:=by rw [h0];exact (Option.some.inj h).symm
   have hT:=hT.sz hsz;refine sk (rJ fun K=>ag (rm [2] K ?_));exact zB (en rfl E0 hT)
theorem line_ok:Ret prog 167 #[] w (fun r w'=>IsOwn w.heap.size w' r [0,1]):=by
 refine J0 4 func167 rfl (rj fun K=>ag (rm [] K ?_));refine rj fun K=>K1 (j0 E0 hb38 (zDO (n:=0) (by decide) (by decide)) fun v1 w2 E0 N1=>K1 (j1 E0 N1.ext hb38 (zDO (n:=1) (by decide) (by decide)) fun v2 w2 E0 N1 N2 => ?_));obtain ⟨n1,d1,rfl,hn1,hd1⟩:=N1;obtain ⟨n2,d2,rfl,hn2,hd2⟩:=N2;refine K1 (zc (cs:=[.bool (decide (((0:Int):Rat)<0)),n1,d1,.bool (decide (((1:Int):Rat)<0)),n2,d2]) zAb info37' (by decide) (by decide) (by kernel_rfl) fun bb w10 hb hE hBb hs => ?_);have hgb:w.heap.size≤bb:=by rw [hb];exact E0.size
 replace E0:=E0.trans hE;have M1:IsNum _ (.agg #[.bool (decide (((0:Int):Rat)<0)),n1,d1]) ((0:Int):Rat):=⟨_,_,rfl,hn1.ext hE,hd1.ext hE⟩;have M2:IsNum _ (.agg #[.bool (decide (((1:Int):Rat)<0)),n2,d2]) ((1:Int):Rat):=⟨_,_,rfl,hn2.ext hE,hd2.ext hE⟩;clear hE hb hs;refine ag (rm [0] K ?_);refine zB (zQ (⟨rfl,_,zg rfl rfl,E0,_,2,rfl,Nat.le_refl _,.inr ⟨bb,0,_,rfl,hBb,by simp,fun i hi => ?_⟩,by simp,fun _=>⟨bb,rfl,hgb⟩⟩))
 match i,hi with
 | 0,_=>exact M1
 | 1,_=>exact M2
theorem along_ok {vx vy:Value} {p x y R I:List Rat} (hp:zO w u p) (hx:zO w vx x) (hy:zO w vy y) (h:along p x y=some (R,I)):Ret prog 166 #[u,vx,vy] w (fun r w'=>∃ a b,r = .tuple #[a,b]∧zO w' a R∧zO w' b I):=by
 obtain ⟨pp,pc,rfl,hpc,hpP,hpl⟩:=hp;unfold along at h;have E0:Ext w w:=Ext.refl w;refine J0 38 func166 rfl (rj fun K=>ag (ag (rm [0,1,2,6,7] K ?_)));refine zA (rJ fun K=>K1 (zG zAB rfl (K1 (zF (v := .int .i64 (((p.length:Nat):Int)-1)) rfl rfl (congrArg (fun z=>some (Value.int .i64 z)) (zj (by omega) (by omega))) (ag (rm [0,1,2,6,7,8] K ?_))))));refine zD ?_;refine ze (X:=Nat) (fun k ρ w'=>∃ v6 v7 re im,Keep ρ [(0,.slice pp p.length pc),(1,vx),(2,vy),(6,v6),(7,v7),(8,.int .i64 (((k:Nat):Int)-1))]∧k≤p.length∧Ext w w'∧zO w' v6 re∧zO w' v7 im∧zHf x y (p.take k).reverse re im=some (R,I)) (fun k=>k) p.length ⟨_,_,[],[],(kp rfl),Nat.le_refl _,E0,zO.nil,zO.nil,by rw [List.take_length];exact h⟩ ?_;clear E0 h;rintro k ρ1 w1 ⟨v6,v7,re,im,hk,hkl,E0,h6,h7,hA⟩;have hx1:=hx.ext E0;have hy1:=hy.ext E0;refine wpe_k _ hk ?_;clear hk ρ1;refine zA (zA ?_);rcases k with _ | j
 · simp only [List.take_zero,List.reverse_nil,zHf] at hA;cases hA;refine rI fun K=>K8 rfl (rs [0,1,2,6,7,8,13] K ?_);refine wcf (congrArg Value.bool (decide_eq_false (by omega))) (zV (zv (zi (zL (zN (rJ fun K=>mv (ag (ag (rm [0,6,7,8] K ?_)))))))));exact zB (zQ ⟨rfl,_,zo rfl rfl rfl,E0,_,_,rfl,h6,h7⟩)
 · have hw1:((j+1:Nat):Int)-1=(j:Int):=by omega
   have hw2:IntKind.i64.wrap ((j:Int)-1)=(j:Int)-1:=zj (by omega) (by omega);rw [hw1];have hpP1:=hpP.ext E0;rw [zEc (by omega),List.reverse_append] at hA;unfold zHf at hA;obtain ⟨a,ha,hA⟩:=bind_some hA;obtain ⟨b,hb,hA⟩:=bind_some hA;obtain ⟨s,hs,hA⟩:=bind_some hA;obtain ⟨re2,hre2,hA⟩:=bind_some hA;obtain ⟨e,he,hA⟩:=bind_some hA;obtain ⟨g,hg,hA⟩:=bind_some hA;obtain ⟨im2,him2,hA⟩:=bind_some hA;refine rI fun K=>K8 rfl (rs [0,1,2,6,7,8,13] K ?_)
   refine wct (congrArg Value.bool (decide_eq_true (by omega))) (sk (zA (zD (zAY [([(6,none)],none),([(1,none)],none),([(16,some 1),(17,some 0)],none),([(7,none)],none),([(2,none)],none),([(19,some 1),(20,some 0)],none),([(18,some 3),(21,some 0)],none),([(0,none)],none),([(8,none)],none),([(8,none)],none),([(25,some 0)],none),([(23,some 3),(24,some 2),(26,some 0)],none),([(22,some 5),(27,some 0)],none),([(6,none)],none),([(2,none)],none),([(29,some 1),(30,some 0)],none),([(7,none)],none),([(1,none)],none),([(32,some 1),(33,some 0)],none),([(31,some 3),(34,some 0)],none),([(28,some 7)],none),([(35,some 1)],none)] mixed (by kernel_rfl) (by kernel_rfl) (by kernel_rfl) fun K hK=>dvp (fun σ wx hE hk=>zC ⟨Ext.refl _,hk.1⟩) (dvp (fun σ wx hE hk=>zC ⟨Ext.refl _,hk.1⟩) (dcp (fun v w'=>zO w' v (a)) (fun _ _ _ _ hx h=>h.ext hx.toExt) (fun σ wx hE hk=>zH hb71 (CallK.of_ret (zEj (zO.of_eq hk.1 (h6.ext hE)) (zO.of_eq hk.2.1 (hx1.ext hE)) ha) fun v w2 hX hr=>⟨hX,hr.poly⟩) rfl) (dvp (fun σ wx hE hk=>zC ⟨Ext.refl _,hk.1⟩) (dvp (fun σ wx hE hk=>zC ⟨Ext.refl _,hk.1⟩) (dcp (fun v w'=>zO w' v (b)) (fun _ _ _ _ hx h=>h.ext hx.toExt) (fun σ wx hE hk=>zH hb71 (CallK.of_ret (zEj (zO.of_eq hk.1 (h7.ext hE)) (zO.of_eq hk.2.1 (hy1.ext hE)) hb) fun v w2 hX hr=>⟨hX,hr.poly⟩) rfl) (dcp (fun v w'=>zO w' v (s)) (fun _ _ _ _ hx h=>h.ext hx.toExt) (fun σ wx hE hk=>zH hb70 (CallK.of_ret (zIN hk.1 hk.2.1 hs) fun v w2 hX hr=>⟨hX,hr.poly⟩) rfl) (dvp (fun σ wx hE hk=>zC ⟨Ext.refl _,hk.1⟩) (dvp (fun σ wx hE hk=>zC ⟨Ext.refl _,hk.1⟩) ?_))))))))))))
   refine dvp (fun σ wx hE hk=>zC ⟨Ext.refl _,hk.1⟩) (dvp (fun σ wx hE hk=>za (b:=1) (j+1) hk.1 rfl rfl (by omega) ⟨Ext.refl _,rfl⟩) ?_);refine dcp (fun v w'=>zO w' v ([p.getD j 0])) (fun _ _ _ _ hx h=>h.ext hx.toExt) (fun σ wx hE hk=>runs_sliceLoHi zAB hk.1 hk.2.1 hk.2.2.1 (by omega) (by omega) (by omega) (by
    rw [show ((j+1:Nat):Int).toNat-((j:Nat):Int).toNat=1 from by omega,show ((j:Nat):Int).toNat=j from by omega];exact ⟨Ext.refl _,(hpP1.ext hE).one (by omega) (by omega)⟩)) ?_
   refine dcp (fun v w'=>zO w' v (re2)) (fun _ _ _ _ hx h=>h.ext hx.toExt) (fun σ wx hE hk=>zH hb149 (CallK.of_ret (zJG hk.1 hk.2.1 hre2) fun v w2 hX hr=>⟨hX,hr.poly⟩) rfl) (dvp (fun σ wx hE hk=>zC ⟨Ext.refl _,hk.1⟩) (dvp (fun σ wx hE hk=>zC ⟨Ext.refl _,hk.1⟩) (dcp (fun v w'=>zO w' v (e)) (fun _ _ _ _ hx h=>h.ext hx.toExt) (fun σ wx hE hk=>zH hb71 (CallK.of_ret (zEj (zO.of_eq hk.1 (h6.ext hE)) (zO.of_eq hk.2.1 (hy1.ext hE)) he) fun v w2 hX hr=>⟨hX,hr.poly⟩) rfl) (dvp (fun σ wx hE hk=>zC ⟨Ext.refl _,hk.1⟩) (dvp (fun σ wx hE hk=>zC ⟨Ext.refl _,hk.1⟩) (dcp (fun v w'=>zO w' v (g)) (fun _ _ _ _ hx h=>h.ext hx.toExt) (fun σ wx hE hk=>zH hb71 (CallK.of_ret (zEj (zO.of_eq hk.1 (h7.ext hE)) (zO.of_eq hk.2.1 (hx1.ext hE)) hg) fun v w2 hX hr=>⟨hX,hr.poly⟩) rfl) (dcp (fun v w'=>zO w' v (im2)) (fun _ _ _ _ hx h=>h.ext hx.toExt) (fun σ wx hE hk=>zH hb149 (CallK.of_ret (zJG hk.1 hk.2.1 him2) fun v w2 hX hr=>⟨hX,hr.poly⟩) rfl) (dcp (fun v w'=>zO w' v (re2)) (fun _ _ _ _ hx h=>h.ext hx.toExt) (fun σ wx hE hk=>zZ ⟨Ext.refl _,hk.1⟩) (dcp (fun v w'=>zO w' v (im2)) (fun _ _ _ _ hx h=>h.ext hx.toExt) (fun σ wx hE hk=>zZ ⟨Ext.refl _,hk.1⟩) (zBW (hK _ fun wq hE => ?_)))))))))))
   rintro _ rfl _ rfl v18 N18 _ rfl _ rfl v21 N21 v22 N22 _ rfl _ rfl _ rfl _ rfl v27 N27 v28 N28 _ rfl _ rfl v31 N31 _ rfl _ rfl v34 N34 v35 N35 v6 N6 v7 N7;refine zn ?_;replace E0:=E0.trans hE;clear hE;refine zS (zN (K5 [0,1,2,6,7,8] ?_));exact rI fun K=>K8 rfl (ag (rl K (zP (⟨rfl,j,⟨_,_,re2,im2,⟨rfl,rfl,rfl,rfl,rfl,rfl,rfl,rfl,rfl,rfl,rfl,congrArg (Value.int .i64) hw2,trivial⟩,by omega,E0,N6,N7,hA⟩,by omega⟩))))
end Go.Proofs.YtjiendlfobjanaaGreatDoor
