/-
  A part of the proof: W62, W63, W64, Rev98, LawH, LawS, W56, W57, W58, W65, W66, LawF, LawF2, LawF3, W67.
-/
import Derived.Test.YtjiendlfobjanaaGreatDoorH05
import Derived.Shelf.SlicesQ.Reverse
namespace Go.Proofs.YtjiendlfobjanaaGreatDoor.R
open Go Go.RowKit Go.Proofs Tryz
set_option maxRecDepth 10000
set_option maxHeartbeats 2000000
attribute [local irreducible] Runs WPE CallK Ret
variable {A l:List Rat} {K:Value→World→Prop} {af:Array Edge} {b cap i sz2:Nat} {g:Option (Nat×Bool)} {p:Poly} {pos:String} {q x:Rat} {r:Option Nat} {ty:TypeId} {u v:Value} {w:World} {σ:Operand→Value}
structure Near5 (sz:Nat) (w w':World):Prop where
 ext:∀ W:World,W.heap.size≤sz→Ext W w→Ext W w'
 num:∀ v q,IsR w v q→IsR w' v q
 at_:∀ b q,b<sz→RAt b q w→RAt b q w'
 size:w.heap.size≤w'.heap.size
section laws
variable {d:Option Tmp}
theorem zEk {x y:Operand} {sz:Nat} (hx:σ x=v) (hA:AccP sz w v A) (hy:OneR sz2 q (σ y) w) (hl:A.length<4096) (hs:sz≤w.heap.size)
 (hk:∀ v' w',Near5 sz w w'→AccP sz w' v' (A++[q])→K v' w'):Runs prog r ⟨d,.call { callee := .builtin .append,args := #[x,y],argTypes := #[26,26] },ty,pos,af,g⟩ σ w K:=by
 rcases hA.cases with ⟨b,c,e,hc,hb,hB⟩ | ⟨p,c,e,hc⟩
 · rw [e] at hx;refine Runs.mono (runs_appE_in (sz:=sz2) hx hc hB hy) fun v' w' ⟨h1,h2,h3⟩ => ?_;have hnow:=hB.now;refine hk _ _ ⟨fun W hW hx=>hx.updSS h1 (fun c hc=>by rw [List.mem_singleton.1 hc];omega),fun v q h=>h.extS h1 hnow,fun b' q hb' h=>h.extS h1 (by rw [List.mem_singleton];omega) hnow,h1.size⟩ ?_;rw [h3];exact h2.acc hb (by simpa using hc)
 · rw [e] at hx hA;exact Runs.mono (runs_appE_grow (sz:=sz) hx hA hc hy hl hs) fun v' w' ⟨h1,h2⟩=>hk _ _ ⟨fun W _ hx=>hx.trans h1,fun v q h=>h.ext h1,fun b' q _ h=>h.ext h1,h1.size⟩ h2
theorem zFr {y:Operand} (hy:IsR w (σ y) q) (hk:∀ v w',Ext w w'→OneR 0 q v w'→K v w'):Runs prog r ⟨d,.buildSlice 26 1 #[(0,y)],ty,pos,af,g⟩ σ w K :=
 Runs.mono (runs_one (sz:=0) hy (Nat.zero_le _)) fun v w' ⟨h1,h2⟩=>hk v w' h1 h2
theorem zKB {x y:Operand} {a p:Option Addr} (hx:σ x = .slice a 0 0) (hy:σ y = .slice p l.length cap) (hP:PRd w p l) (hl:l.length≤4096)
 (hk:∀ v w',Ext w w'→IsPoly w' v l→K v w'):Runs prog r ⟨d,.call { callee := .builtin .append,args := #[x,y],argTypes := #[26,26] },ty,pos,af,g⟩ σ w K:=by
 by_cases h0:l=[]
 · subst h0;exact zDH zCV zCV zJw hx hy (Nat.le_refl _) (hk _ _ (Ext.refl w) ⟨a,0,rfl,Nat.le_refl _,.inl rfl,by decide⟩)
 · have hl0:0<l.length:=List.length_pos_iff.2 h0;obtain ⟨cs,hcs,hcl,hcn⟩:=hP.cells;refine zAN zCV zCV zJw rfl (by decide) hx hy (.inl rfl) rfl hcs hcl (by omega) (by have:=zAR (0+l.length) 0;omega) fun w2 rest c hcc hE hB hrest hs=>hk _ _ hE ⟨some ⟨_,0,none⟩,c,by rw [Nat.zero_add],by omega,.inr ⟨_,0,_,rfl,hB,by simp;omega,fun i hi => ?_⟩,hl⟩;rw [Nat.zero_add,List.nil_append,zCC (by omega)];exact (hcn i hi).ext hE
end laws
theorem RAt.lt (h:RAt b q w):b<w.heap.size:=by obtain ⟨cs,h1,_⟩:=h;exact h1.lt
theorem sign_zero:x.num.sign=0↔x=0:=by rw [Int.sign_eq_zero_iff_zero,Rat.num_eq_zero]
theorem zAk (hp:IsPoly w v l):Ret prog 78 #[v] w (fun r w'=>IsPoly w' r (trim l)):=by
 obtain ⟨p,cap,rfl,hc,hP,hl⟩:=hp;have E0:Ext w w:=Ext.refl w;refine J0 24 func78 rfl (rj fun K=>ag (rm [0] K ?_));refine rJ fun K=>K1 (zH slice26 rfl (ag (rm [0,3] K ?_)));refine zA (zE (zZ (X:=Nat) (fun n ρ w'=>Keep ρ [(0,.slice p l.length cap),(3,.int .i64 ((n:Nat):Int))]∧n≤l.length∧Ext w w'∧trim (l.take n)=trim l) (fun n=>n) l.length ⟨(kp rfl),Nat.le_refl _,E0,by rw [List.take_length]⟩ ?_));clear E0;rintro n ρ1 w1 ⟨hk,hn,E0,ht⟩;refine wpe_k _ hk ?_;clear hk ρ1;refine zA (zA ?_);rcases n with _ | m
 · skip
   refine rI fun K=>K9 false rfl (decide_eq_false (by omega)) (mv (K3 (K3 (K3 (K3 (K3 (K3 (K3 (pk rfl (rs [0,3,9,10,11,12,13,14,15,16] K ?_))))))))));refine wcf rfl (zS (zw (zh (zK (zL (zA ?_))))));have htt:trim l=l.take 0:=by rw [← ht];rfl
   have hlen:(trim l).length=0:=by rw [htt];simp
   refine K6 fun K=>K1 (zBx zCV zEe fun b0 w1 hb0 hE hs => ?_);replace E0:=E0.trans hE;clear hE hs hb0;refine mv (mv (K1 (zBG slice26 rfl rfl (by omega) (by omega) ?_)));refine K1 (zKB (l:=trim l) rfl (by rw [hlen];rfl) (by rw [htt];exact (hP.ext E0).take _) (by omega) fun v w9 hE hr => ?_);replace E0:=E0.trans hE;clear hE;refine ag (rs [0,2,3] K ?_);exact zC (en rfl E0 hr)
 · have hP1:=hP.ext E0;refine rI fun K=>K9 true rfl (decide_eq_true (by omega)) (mv (K7 (K7 (K2 (zAB (b:=1) m rfl rfl rfl (by omega) (K2 (runs_pindex (l:=l) (cap:=cap) (ix:=m) hP1 rfl rfl (by omega) (K2 (runs_pload hP1 (i:=m) (by omega) rfl fun v13 hN13=>K2 (zG hb120 (CallK.of_ret (zAT hN13) fun v14 w2 hE hr => ?_) rfl))))))))));subst hr;replace E0:=E0.trans hE;clear hE hN13 hP1;refine K2 (zJ rfl rfl rfl (pk rfl (rs [0,3,9,10,11,12,13,14,15,16] K ?_)));refine K0 rfl ?_ ?_<;>intro hc
   · have hz:l.getD m 0=0:=sign_zero.1 (eq_of_beq hc);clear hc;exact sk (zE (rI fun K=>K1 (zAB (b:=1) (m) rfl rfl rfl (by omega) (ag (rl K (zQ (zN (⟨rfl,m,⟨(kp rfl),by omega,E0,(zKg (by omega) hz).symm.trans ht⟩,by omega⟩))))))))
   · have hz:l.getD m 0≠0:=fun e=>beq_eq_false_iff_ne.1 hc (sign_zero.2 e);clear hc;have htt:trim l=l.take (m+1):=by rw [← ht,zLI (by omega) hz]
     have hlen:(trim l).length=m+1:=by rw [htt];simp;omega
     refine zS (zw (zh (zK (zL (rj fun K=>K1 (zBx zCV zEe fun b0 w1 hb0 hE hs => ?_))))));replace E0:=E0.trans hE;clear hE hs hb0;refine mv (mv (K1 (zBG slice26 rfl rfl (by omega) (by omega) ?_)));refine K1 (zKB (l:=trim l) rfl (by rw [hlen];rfl) (by rw [htt];exact (hP.ext E0).take _) (by omega) fun v w9 hE hr => ?_);replace E0:=E0.trans hE;clear hE;refine ag (rm [0,2,3] K ?_);exact zC (en rfl E0 hr)
theorem zCs (hp:IsPoly w v l):Ret prog 76 #[v] w (fun r _=>r = .int .i64 (((trim l).length:Int)-1)):=by
 refine J0 7 func76 rfl (rj fun K=>ag (rm [0] K ?_));refine rJ fun K=>K1 (j0 E0 hb78 (zAk hp) fun v4 w2 E0 hr => ?_);obtain ⟨p,c,rfl,_,_,hl⟩:=hr;refine K1 (zH slice26 rfl (K8 rfl ?_));rw [show IntKind.i64.wrap (((trim l).length:Int)-1)=((trim l).length:Int)-1 from zq (by omega) (by omega)];refine ag (rm [2] K ?_);exact zC (en rfl E0 rfl)
theorem zHl (hp:IsPoly w v l):Ret prog 83 #[v] w (fun r _=>r = .bool (decide (41<(trim l).length))):=by
 refine J0 6 func83 rfl (rj fun K=>ag (rm [0] K ?_));refine rJ fun K=>K1 (j0 E0 hb76 (zCs hp) fun vi w2 E0 hr => ?_);subst hr;refine K8 rfl (ag (rm [2] K ?_));exact zC (en rfl E0 (congrArg Value.bool (decide_eq_decide.2 (by omega))))
theorem at_ok (hp:IsPoly w v l):Ret prog 215 #[v,.int .i64 (i:Int)] w (fun r w'=>IsR w' r (l.getD i 0)):=by
 obtain ⟨p,cap,rfl,hc,hP,hl⟩:=hp;refine J0 14 func215 rfl (rj fun K => ?_);refine K1 (zX zero50 fun b1 w1 hb hE hB1 hs => ?_);have hgb1:w.heap.size≤b1:=by rw [hb];exact E0.size
 replace E0:=E0.trans hE;clear hE hs hb;refine rm [0,1,4] K ?_;refine zA (rJ fun K=>mv (K1 (zH slice26 rfl (K8 rfl (rm [0,1,4,8] K ?_)))));refine K0 rfl ?_ ?_<;>intro hc
 · have hlt:i<l.length:=by have:=of_decide_eq_true hc;omega
   clear hc;refine rJ fun K=>mv (K1 (runs_pindex (ix:=i) (hP.ext E0) rfl rfl hlt (K1 (runs_pload (hP.ext E0) (i:=i) hlt rfl fun v12 hN12=>K1 (runs_rstoreK rfl hN12 (Cell3.of hB1 rfl) fun _ w9 hU hN => ?_)))));replace E0:=E0.upd hU hgb1;obtain ⟨cs,hB4,hl4,hN4⟩:=hN;refine rm [4] K ?_;exact zC (zR (zO ⟨rfl,_,zp rfl rfl rfl zAc hB4 hl4,E0,hN4⟩))
 · have hge:¬ i<l.length:=fun e=>of_decide_eq_false hc (by omega);clear hc;have h0:l.getD i 0=0:=by rw [List.getD_eq_getElem?_getD,List.getElem?_eq_none (by omega)];rfl
   refine sk (rj fun K=>K1 (zf (cs := #[.int .i64 0,.slice none 0 0,.slice none 0 0]) (by kernel_rfl) (K1 (zv zEe rfl hB1 rfl (Nat.le_of_ble_eq_true rfl) (by decide) rfl fun w2 hU hN => ?_))));replace E0:=E0.upd hU hgb1;clear hB1;have hB1:=hN;clear hN hU;refine rm [4] K ?_;exact zC (zO ⟨rfl,_,zp rfl rfl rfl zAc hB1 rfl,E0,IsR.zero' h0⟩)
theorem map_take_succ {f:Rat→Rat} (h:i<p.length):(p.take (i+1)).map f=(p.take i).map f++[f (p.getD i 0)]:=by
 rw [List.take_succ_eq_append_getElem h,List.map_append,List.getD_eq_getElem?_getD,List.getElem?_eq_getElem h];rfl
theorem zCw {p:List Rat} (hp:IsPoly w u p) (hx:IsR w v x) (hr:∀ i,i<p.length→Room (p.getD i 0) x):Ret prog 130 #[u,v] w (fun r w'=>IsPoly w' r (trim (p.map (· * x)))):=by
 obtain ⟨pp,pc,rfl,hpc,hP,hpl⟩:=hp;obtain ⟨xn,xd,hxv,hxn,hxd⟩:=id hx;subst hxv;have E0:Ext w w:=Ext.refl w;refine J0 24 func130 rfl (rj fun K => ?_);refine K1 (zo fun b1 w1 hb hE hB1 hs => ?_);have hgb1:w.heap.size≤b1:=by rw [hb];exact E0.size
 replace E0:=E0.trans hE;replace hx:=hx.ext hE;clear hE hs hb;refine ag (rm [0,3] K ?_);refine zA ?_;have hX:RAt b1 x _:=⟨_,hB1,rfl,hx⟩;have hbl:=hB1.lt;refine K6 fun K=>ag (rs [0,3,5] K ?_);refine zA (rj fun K=>ag (rm [0,3,5,6] K ?_));refine zE (zZ (X:=Nat) (fun i ρ w'=>∃ vo,Keep ρ [(0,.slice pp p.length pc),(3,.pointer (some ⟨b1,0,none⟩)),(5,vo),(6,.int .i64 ((i:Nat):Int))]∧i≤p.length∧Ext w w'∧RAt b1 x w'∧b1<w'.heap.size∧AccP (b1+1) w' vo ((p.take i).map (· * x))) (fun i=>p.length-i) 0 ⟨_,(kp rfl),Nat.zero_le _,E0,hX,hbl,AccP.nil⟩ ?_)
 clear E0 hX hbl;rintro i ρ1 w1 ⟨vo,hk,hil,E0,hX,hbl,hA⟩;refine wpe_k _ hk ?_;clear hk ρ1;refine zA (rJ fun K=>mv (K1 (zH slice26 rfl (K8 rfl (rm [0,3,5,6,10] K ?_)))));refine K0 rfl ?_ ?_<;>intro hc
 · have hlt:i<p.length:=t_lt hc;clear hc;refine sk (zA (zE (zHh 8 [([(5,none)],none),([(0,none)],none),([(6,none)],none),([(14,some 1),(15,some 0)],none),([(16,some 0)],none),([(3,none)],none),([(17,some 1),(18,some 0)],none),([(19,some 0)],none)] mixed (by kernel_rfl) (by kernel_rfl) (by kernel_rfl) (by kernel_rfl) (by kernel_rfl) fun K hK=>dvp (fun σ wx hE hk=>zD ⟨Ext.refl _,hk.1⟩) (dvp (fun σ wx hE hk=>zD ⟨Ext.refl _,hk.1⟩) (dvp (fun σ wx hE hk=>zD ⟨Ext.refl _,hk.1⟩) (dcp (fun v _=>v = .pointer (pp.map fun a=>a.add (3*i))) (fun _ _ _ _ _ h=>h) (fun σ wx hE hk=>runs_pindex (ix:=i) (hP.ext (E0.trans hE)) hk.1 hk.2.1 hlt ⟨Ext.refl _,rfl⟩) (dcp (fun v w'=>IsR w' v (p.getD i 0)) (fun _ _ _ _ hx h=>h.ext hx.toExt) (fun σ wx hE hk=>runs_pload (l:=p) (i:=i) (hP.ext (E0.trans hE)) hlt hk.1 fun v h=>⟨Ext.refl _,h⟩) (dcp (fun v w'=>IsR w' v x) (fun _ _ _ _ hx h=>h.ext hx.toExt) (fun σ wx hE hk=>runs_rAt hk.1 (hX.ext hE) fun v h=>⟨Ext.refl _,h⟩) (dcp (fun v w'=>IsR w' v (p.getD i 0*x)) (fun _ _ _ _ hx h=>h.ext hx.toExt) (fun σ wx hE hk=>zG hb121 (CallK.of_ret (zCm hk.1 hk.2.1 (hr i hlt)) fun v w2 hX hr=>⟨hX,hr⟩) rfl) (dcp (fun v w'=>OneR 0 (p.getD i 0*x) v w') (fun _ _ _ _ hx h=>h.ext hx.toExt) (fun σ wx hE hk=>runs_one (sz:=0) hk.1 (Nat.zero_le _)) (zAe (hK _ fun wq hE => ?_))))))))))))
   rintro _ rfl _ rfl _ rfl v16 N16 v17 N17 v18 N18 v19 N19 v20 N20;refine zg ?_;replace E0:=E0.trans hE;replace hX:=hX.ext hE;replace hA:=hA.ext hE;clear hE;have hbl:=hX.lt;refine K1 (zEk rfl hA N20 (by simp;omega) hbl fun v' w9 hN hA => ?_);replace E0:=hN.ext _ (by omega) E0;replace hX:=hN.at_ _ _ (by omega) hX;have hbl:=Nat.lt_of_lt_of_le hbl hN.size;clear hN;refine ag (zCH (zQ (zL (K5 [0,3,5,6] ?_))));refine rI fun K=>K8 rfl (ag (rl K (zN ?_)));exact ⟨rfl,i+1,⟨_,⟨rfl,rfl,rfl,rfl,rfl,rfl,rfl,congrArg (Value.int .i64) (zr (by omega)),trivial⟩,by omega,E0,hX,by omega,by rw [map_take_succ hlt];exact hA⟩,by omega⟩
 · have hge:=f_lt hc;obtain rfl:i=p.length:=by omega
   clear hc;rw [List.take_length] at hA;refine zS (zw (zh (zK (zL (rJ fun K=>K1 (j0 E0 hb78 (zAk (hA.poly (by simpa using hpl))) fun v23 w2 E0 hr=>ag (rm [0,3,4,6] K ?_)))))));exact zC (en rfl E0 hr)
def addR (p q:Poly):Poly:=(List.range (max p.length q.length)).map fun i=>p.getD i 0+q.getD i 0
theorem zFL {p q:List Rat} (hp:IsPoly w u p) (hq:IsPoly w v q) (hr:∀ i,i<max p.length q.length→Room (p.getD i 0) (q.getD i 0)):Ret prog 129 #[u,v] w (fun r w'=>IsPoly w' r (trim (addR p q))):=by
 obtain ⟨pp,pc,rfl,hpc,hP,hpl⟩:=hp;obtain ⟨qp,qc,rfl,hqc,hQ,hql⟩:=hq;have E0:Ext w w:=Ext.refl w;refine J0 31 func129 rfl (rj fun K=>ag (rm [0,1] K ?_));refine rj fun K=>ag (rm [0,1,5] K ?_);refine zA (rj fun K=>ag (rm [0,1,5,6] K ?_));refine zE (zZ (X:=Nat) (fun i ρ w'=>∃ vo,Keep ρ [(0,.slice pp p.length pc),(1,.slice qp q.length qc),(5,vo),(6,.int .i64 ((i:Nat):Int))]∧i≤max p.length q.length∧Ext w w'∧AccP w.heap.size w' vo ((List.range i).map fun i=>p.getD i 0+q.getD i 0)) (fun i=>max p.length q.length-i) 0 ⟨_,(kp rfl),Nat.zero_le _,E0,AccP.nil⟩ ?_);clear E0;rintro i ρ1 w1 ⟨vo,hk,hil,E0,hA⟩;refine wpe_k _ hk ?_;clear hk ρ1;refine zA (zA ?_);rcases (show i<p.length∨(¬ i<p.length∧i<q.length)∨(¬ i<p.length∧¬ i<q.length) from by omega) with h1 | ⟨h1,h2⟩ | ⟨h1,h2⟩
 · have hlt:i<max p.length q.length:=by omega
   refine rI fun K=>mv (K1 (zH slice26 rfl (K9 true rfl (decide_eq_true (by omega)) (mv (K3 (K3 (K3 (K3 (pk rfl (rs [0,1,5,6,12,13,14,15,16] K ?_))))))))));refine wct rfl (sk (zA (zE (rI fun K=>mv (mv (K1 (j1 E0 hA.ext hb215 (at_ok (i:=i) ⟨pp,pc,rfl,hpc,hP.ext E0,hpl⟩) fun va w2 E0 hA N1=>mv (mv (K1 (j2 E0 hA.ext N1.ext hb215 (at_ok (i:=i) ⟨qp,qc,rfl,hqc,hQ.ext E0,hql⟩) fun vb w2 E0 hA N1 N2=>K1 (j1 E0 hA.ext hb113 (zEz N1 N2 (hr i hlt)) fun vc w2 E0 hA N3 => ?_)))))))))));clear N1 N2;refine K1 (zFr N3 fun v4 w4 hE N4 => ?_);replace E0:=E0.trans hE;replace hA:=hA.ext hE;clear hE N3;refine K1 (zEk rfl hA N4 (by simp;omega) E0.size fun v' w9 hN hA => ?_);replace E0:=hN.ext _ (Nat.le_refl _) E0;clear hN N4;refine ag (rl K (zQ (zL (K5 [0,1,5,6,12,13,14,15] ?_))));refine rI fun K=>K8 rfl (ag (rl K (zN ?_)));exact ⟨rfl,i+1,⟨_,⟨rfl,rfl,rfl,rfl,rfl,rfl,rfl,congrArg (Value.int .i64) (zr (by omega)),trivial⟩,by omega,E0,by rw [List.range_succ,List.map_append];exact hA⟩,by omega⟩
 · have hlt:i<max p.length q.length:=by omega
   refine rI fun K=>mv (K1 (zH slice26 rfl (K9 false rfl (decide_eq_false (by omega)) (mv (K7 (K7 (K2 (zH slice26 rfl (K2 (zJ (v := .bool true) rfl rfl (congrArg (fun z=>some (Value.bool z)) (decide_eq_true (by omega))) (pk rfl (rs [0,1,5,6,12,13,14,15,16] K ?_))))))))))));refine wct rfl (sk (zA (zE (rI fun K=>mv (mv (K1 (j1 E0 hA.ext hb215 (at_ok (i:=i) ⟨pp,pc,rfl,hpc,hP.ext E0,hpl⟩) fun va w2 E0 hA N1=>mv (mv (K1 (j2 E0 hA.ext N1.ext hb215 (at_ok (i:=i) ⟨qp,qc,rfl,hqc,hQ.ext E0,hql⟩) fun vb w2 E0 hA N1 N2=>K1 (j1 E0 hA.ext hb113 (zEz N1 N2 (hr i hlt)) fun vc w2 E0 hA N3 => ?_)))))))))));clear N1 N2;refine K1 (zFr N3 fun v4 w4 hE N4 => ?_);replace E0:=E0.trans hE;replace hA:=hA.ext hE;clear hE N3;refine K1 (zEk rfl hA N4 (by simp;omega) E0.size fun v' w9 hN hA => ?_);replace E0:=hN.ext _ (Nat.le_refl _) E0;clear hN N4;refine ag (rl K (zQ (zL (K5 [0,1,5,6,12,13,14,15] ?_))));refine rI fun K=>K8 rfl (ag (rl K (zN ?_)));exact ⟨rfl,i+1,⟨_,⟨rfl,rfl,rfl,rfl,rfl,rfl,rfl,congrArg (Value.int .i64) (zr (by omega)),trivial⟩,by omega,E0,by rw [List.range_succ,List.map_append];exact hA⟩,by omega⟩
 · obtain rfl:i=max p.length q.length:=by omega
   refine rI fun K=>mv (K1 (zH slice26 rfl (K9 false rfl (decide_eq_false (by omega)) (mv (K7 (K7 (K2 (zH slice26 rfl (K2 (zJ (v := .bool false) rfl rfl (congrArg (fun z=>some (Value.bool z)) (decide_eq_false (by omega))) (pk rfl (rs [0,1,5,6,12,13,14,15,16] K ?_))))))))))));refine wcf rfl (zS (zw (zh (zK (zL (rj fun K=>mv ?_))))));refine K1 (j0 E0 hb78 (zAk (hA.poly (by simp;omega))) fun v30 w2 E0 hr => ?_);refine ag (rm [0,1,4,6] K ?_);exact zC (en rfl E0 hr)
variable {ix j k len n o:Nat}
def rowsR (p q:Poly):Nat→Nat→Rat
 | 0,_=>0
 | i+1,k=>rowsR p q i k+(if i≤k then p.getD i 0*q.getD (k-i) 0 else 0)
def partR (p q:Poly) (i j k:Nat):Rat:=rowsR p q i k+(if i≤k∧k<i+j then p.getD i 0*q.getD (k-i) 0 else 0)
def mulR (p q:Poly):Poly:=(List.range (p.length+q.length)).map fun k=>rowsR p q p.length k
def MulRoom (p q:Poly):Prop:=∀ i j,i<p.length→j<q.length→Room (p.getD i 0) (q.getD j 0)∧Room (partR p q i j (i+j)) (p.getD i 0*q.getD j 0)
theorem part_zero (p q:Poly) (i k:Nat):partR p q i 0 k=rowsR p q i k:=by
 unfold partR;rw [if_neg (by omega),Rat.add_zero]
theorem part_end (p q:Poly) (i k:Nat):partR p q i q.length k=rowsR p q (i+1) k:=by
 unfold partR;rw [rowsR];by_cases h1:i≤k
 · rw [if_pos h1];by_cases h2:k<i+q.length
   · rw [if_pos ⟨h1,h2⟩]
   · rw [if_neg (fun h=>h2 h.2),List.getD_eq_getElem?_getD (l:=q),List.getElem?_eq_none (by omega)];show _=_+p.getD i 0*0;rw [Rat.mul_zero]
 · rw [if_neg (fun h=>h1 h.1),if_neg h1]
theorem part_step {q O:Poly} {L:Nat} (hO:O.length=L) (hi:i+j<L) (h:∀ k,k<L→O.getD k 0=partR p q i j k):∀ k,k<L→(O.set (i+j) (O.getD (i+j) 0+p.getD i 0*q.getD j 0)).getD k 0=partR p q i (j+1) k:=fun k hk=>by
 by_cases hkj:k=i+j
 · subst hkj;rw [show (O.set (i+j) (O.getD (i+j) 0+p.getD i 0*q.getD j 0)).getD (i+j) 0=O.getD (i+j) 0+p.getD i 0*q.getD j 0 from by simp [hO,hi],h _ hi];unfold partR;rw [if_neg (by omega),if_pos (by omega),Rat.add_zero,show i+j-i=j by omega]
 · rw [show (O.set (i+j) (O.getD (i+j) 0+p.getD i 0*q.getD j 0)).getD k 0=O.getD k 0 from by simp [List.getElem?_set_ne (Ne.symm hkj)],h k hk];unfold partR;congr 1;by_cases h1:i≤k∧k<i+j
   · rw [if_pos h1,if_pos (by omega)]
   · rw [if_neg h1,if_neg (by omega)]
theorem mul_end {q O:Poly} (hO:O.length=p.length+q.length) (h:∀ k,k<p.length+q.length→O.getD k 0=rowsR p q p.length k):O=mulR p q:=by
 refine List.ext_getElem? fun k => ?_;unfold mulR;rw [List.getElem?_map];by_cases hk:k<p.length+q.length
 · have:=h k hk;rw [List.getD_eq_getElem?_getD,List.getElem?_eq_getElem (by omega)] at this;rw [List.getElem?_eq_getElem (by omega),List.getElem?_range hk];exact congrArg some this
 · rw [List.getElem?_eq_none (by omega),List.getElem?_eq_none (by simp;omega)];rfl
theorem PBlk.zeros (h:Blk w b 50 ((List.replicate n (Value.agg #[.int .i64 0,.slice none 0 0,.slice none 0 0]).cells.toList).flatten)):PBlk w b (List.replicate n 0):=by
 refine ⟨_,h,?_,fun i hi => ?_⟩
 · rw [zIh _ _ rfl,List.length_replicate];exact Nat.le_refl _
 · rw [List.length_replicate] at hi;rw [show (Value.agg #[.int .i64 0,.slice none 0 0,.slice none 0 0]).cells.toList=[Value.int .i64 0,.slice none 0 0,.slice none 0 0] from rfl,flat3 _ _ _ n i hi,show (List.replicate n (0:Rat)).getD i 0=0 from by simp [List.getElem?_replicate,hi]];exact IsR.zero
section laws
variable {d:Option Tmp}
theorem zBj {x:Operand} (hx:σ x = .pointer (some ⟨b,o,none⟩)) (ho:o=3*k) (hB:PBlk w b l) (hk:k<l.length) (hc:∀ v,IsR w v (l.getD k 0)→K v w):Runs prog r ⟨d,.load 50 x,ty,pos,af,g⟩ σ w K:=by
 subst ho;obtain ⟨cs,h1,h2,h3⟩:=hB;exact zIU hx h1 (by omega) (h3 k hk) hc
theorem zLW {x i:Operand} {k:IntKind} (hx:σ x = .slice (some ⟨b,0,none⟩) len cap) (hi:σ i = .int k (ix:Int)) (h1:ix<len) (hk:K (.pointer (some ⟨b,3*ix,none⟩)) w):Runs prog r ⟨d,.indexAddr 26 x i,ty,pos,af,g⟩ σ w K:=by
 refine zI slice26 hx hi (by omega) (by omega) ?_;rw [show 0+((ix:Nat):Int).toNat*3=3*ix from by omega];exact hk
end laws
theorem zCp {p q:List Rat} (hp:IsPoly w u p) (hq:IsPoly w v q) (hbig:p.length+q.length≤4096) (hr:MulRoom p q):Ret prog 128 #[u,v] w (fun r w'=>IsPoly w' r (trim (mulR p q))):=by
 obtain ⟨pp,pc,rfl,hpc,hP,hpl⟩:=hp;obtain ⟨qp,qc,rfl,hqc,hQ,hql⟩:=hq;have E0:Ext w w:=Ext.refl w;refine J0 49 func128 rfl (rj fun K=>ag (rm [0,1] K ?_));refine rJ fun K=>K1 (zH slice26 rfl (mv (K1 (zH slice26 rfl (K1 (zc (p.length+q.length) rfl rfl rfl (by omega) ?_))))));refine K1 (zAF zCV zJw rfl rfl rfl (by omega) (by omega) (by omega) fun ob w1 hb1 hE hB hs => ?_);have hob:w.heap.size≤ob:=Nat.le_of_eq hb1.symm;replace E0:=E0.trans hE;clear hE hs hb1;rw [show ((p.length+q.length:Nat):Int).toNat=p.length+q.length from by omega] at hB ⊢;have hOB:=PBlk.zeros hB;clear hB;refine ag (rm [0,1,5] K ?_);refine zA (rj fun K=>ag (rm [0,1,5,6] K ?_));refine zE (zZ (X:=Nat) (fun i ρ w'=>Keep ρ [(0,.slice pp p.length pc),(1,.slice qp q.length qc),(5,.slice (some ⟨ob,0,none⟩) (p.length+q.length) (p.length+q.length)),(6,.int .i64 ((i:Nat):Int))]∧i≤p.length∧Ext w w'∧∃ O,O.length=p.length+q.length∧PBlk w' ob O∧∀ k,k<p.length+q.length→O.getD k 0=rowsR p q i k) (fun i=>p.length-i) 0 ⟨(kp rfl),Nat.zero_le _,E0,_,by simp,hOB,fun k hk=>by simp [rowsR,hk]⟩ ?_);clear E0 hOB;rintro i ρ1 w1 ⟨hk,hil,E0,O,hOl,hOB,hA⟩;refine wpe_k _ hk ?_;clear hk ρ1;refine zA (rJ fun K=>mv (K1 (zH slice26 rfl (K8 rfl (rm [0,1,5,6,17] K ?_)))));refine K0 rfl ?_ ?_<;>intro hc
 · have hlt:i<p.length:=t_lt hc;clear hc;refine sk (zA (zE (rj fun K=>ag (rm [0,1,5,6,7] K ?_))));refine zE ?_;refine zZ (X:=Nat) (fun j ρ w'=>Keep ρ [(0,.slice pp p.length pc),(1,.slice qp q.length qc),(5,.slice (some ⟨ob,0,none⟩) (p.length+q.length) (p.length+q.length)),(6,.int .i64 ((i:Nat):Int)),(7,.int .i64 ((j:Nat):Int))]∧j≤q.length∧Ext w w'∧∃ O,O.length=p.length+q.length∧PBlk w' ob O∧∀ k,k<p.length+q.length→O.getD k 0=partR p q i j k) (fun j=>q.length-j) 0 ⟨(kp rfl),Nat.zero_le _,E0,O,hOl,hOB,fun k hk=>by rw [part_zero];exact hA k hk⟩ ?_;clear E0 hOB hOl hA;rintro j ρ3 w3 ⟨hk,hjl,E0,O',hOl',hOB',hA2⟩;refine wpe_k _ hk ?_;clear hk ρ3;refine zA (rJ fun K=>mv (K1 (zH slice26 rfl (K8 rfl (rm [0,1,5,6,7,23] K ?_)))));refine K0 rfl ?_ ?_<;>intro hc
   · have hjt:j<q.length:=t_lt hc;clear hc;obtain ⟨hr1,hr2⟩:=hr i j hlt hjt;rw [← hA2 (i+j) (by omega)] at hr2
     refine sk (zA (zE (zBH 20 [([(5,none)],none),([(6,none)],none),([(7,none)],none),([(27,some 1),(28,some 0)],none),([(5,none)],none),([(6,none)],none),([(7,none)],none),([(31,some 1),(32,some 0)],none),([(30,some 3),(33,some 0)],none),([(34,some 0)],none),([(0,none)],none),([(6,none)],none),([(36,some 1),(37,some 0)],none),([(38,some 0)],none),([(1,none)],none),([(7,none)],none),([(40,some 1),(41,some 0)],none),([(42,some 0)],none),([(39,some 4),(43,some 0)],none),([(35,some 9),(44,some 0)],none)] mixed (by kernel_rfl) (by kernel_rfl) (by kernel_rfl) (by kernel_rfl) (by kernel_rfl) fun K hK=>dvp (fun σ wx hE hk=>zD ⟨Ext.refl _,hk.1⟩) (dvp (fun σ wx hE hk=>zD ⟨Ext.refl _,hk.1⟩) (dvp (fun σ wx hE hk=>zD ⟨Ext.refl _,hk.1⟩) (dvp (fun σ wx hE hk=>zc (i+j) hk.1 hk.2.1 rfl (by omega) ⟨Ext.refl _,rfl⟩) (dvp (fun σ wx hE hk=>zD ⟨Ext.refl _,hk.1⟩) (dvp (fun σ wx hE hk=>zD ⟨Ext.refl _,hk.1⟩) (dvp (fun σ wx hE hk=>zD ⟨Ext.refl _,hk.1⟩) (dvp (fun σ wx hE hk=>zc (i+j) hk.1 hk.2.1 rfl (by omega) ⟨Ext.refl _,rfl⟩) (dcp (fun v _=>v = .pointer (some ⟨ob,3*(i+j),none⟩)) (fun _ _ _ _ _ h=>h) (fun σ wx hE hk=>zLW hk.1 hk.2.1 (by omega) ⟨Ext.refl _,rfl⟩) (dcp (fun v w'=>IsR w' v (O'.getD (i+j) 0)) (fun _ _ _ _ hx h=>h.ext hx.toExt) (fun σ wx hE hk=>zBj (l:=O') (k:=i+j) hk.1 rfl (hOB'.ext hE) (by omega) fun v h=>⟨Ext.refl _,h⟩) ?_))))))))))))
     refine dvp (fun σ wx hE hk=>zD ⟨Ext.refl _,hk.1⟩) (dvp (fun σ wx hE hk=>zD ⟨Ext.refl _,hk.1⟩) (dcp (fun v _=>v = .pointer (pp.map fun a=>a.add (3*i))) (fun _ _ _ _ _ h=>h) (fun σ wx hE hk=>runs_pindex (ix:=i) (hP.ext (E0.trans hE)) hk.1 hk.2.1 hlt ⟨Ext.refl _,rfl⟩) (dcp (fun v w'=>IsR w' v (p.getD i 0)) (fun _ _ _ _ hx h=>h.ext hx.toExt) (fun σ wx hE hk=>runs_pload (l:=p) (i:=i) (hP.ext (E0.trans hE)) hlt hk.1 fun v h=>⟨Ext.refl _,h⟩) (dvp (fun σ wx hE hk=>zD ⟨Ext.refl _,hk.1⟩) (dvp (fun σ wx hE hk=>zD ⟨Ext.refl _,hk.1⟩) (dcp (fun v _=>v = .pointer (qp.map fun a=>a.add (3*j))) (fun _ _ _ _ _ h=>h) (fun σ wx hE hk=>runs_pindex (ix:=j) (hQ.ext (E0.trans hE)) hk.1 hk.2.1 hjt ⟨Ext.refl _,rfl⟩) (dcp (fun v w'=>IsR w' v (q.getD j 0)) (fun _ _ _ _ hx h=>h.ext hx.toExt) (fun σ wx hE hk=>runs_pload (l:=q) (i:=j) (hQ.ext (E0.trans hE)) hjt hk.1 fun v h=>⟨Ext.refl _,h⟩) (dcp (fun v w'=>IsR w' v (p.getD i 0*q.getD j 0)) (fun _ _ _ _ hx h=>h.ext hx.toExt) (fun σ wx hE hk=>zG hb121 (CallK.of_ret (zCm hk.1 hk.2.1 hr1) fun v w2 hX hr=>⟨hX,hr⟩) rfl) (dcp (fun v w'=>IsR w' v (O'.getD (i+j) 0+p.getD i 0*q.getD j 0)) (fun _ _ _ _ hx h=>h.ext hx.toExt) (fun σ wx hE hk=>zG hb113 (CallK.of_ret (zEz hk.1 hk.2.1 hr2) fun v w2 hX hr=>⟨hX,hr⟩) rfl) (zAe (hK _ fun wq hE => ?_)))))))))))
     rintro _ rfl _ rfl _ rfl _ rfl _ rfl _ rfl _ rfl _ rfl v34 N34 v35 N35 _ rfl _ rfl v38 N38 v39 N39 _ rfl _ rfl v42 N42 v43 N43 v44 N44 v45 N45;refine zg ?_;replace E0:=E0.trans hE;replace hOB':=hOB'.ext hE;clear hE;have hOB:=hOB';refine K1 (zLW (ix:=i+j) rfl rfl (by omega) (K1 (zAl (k:=i+j) rfl rfl N45 hOB (by omega) fun _ w9 hU hOB2 => ?_)));replace E0:=E0.upd hU hob;clear hOB hU N45;have hOB:=hOB2;clear hOB2;refine zCH (zQ (zL (K5 [0,1,5,6,7] ?_)));refine rI fun K=>K8 rfl (ag (rl K (zN ?_)));exact ⟨rfl,j+1,⟨⟨rfl,rfl,rfl,rfl,rfl,rfl,rfl,rfl,rfl,congrArg (Value.int .i64) (zr (by omega)),trivial⟩,by omega,E0,_,by rw [List.length_set];exact hOl',hOB,part_step hOl' (by omega) hA2⟩,by omega⟩
   · have hge:=f_lt hc;obtain rfl:j=q.length:=by omega
     clear hc;exact zS (zw (zh (zK (zQ (zL (rI fun K=>K8 rfl (ag (rl K (zN (⟨rfl,i+1,⟨⟨rfl,rfl,rfl,rfl,rfl,rfl,rfl,congrArg (Value.int .i64) (zr (by omega)),trivial⟩,by omega,E0,O',hOl',hOB',fun k hk=>(hA2 k hk).trans (part_end p q i k)⟩,by omega⟩))))))))))
 · have hge:=f_lt hc;obtain rfl:i=p.length:=by omega
   clear hc;refine zS (zw (zh (zK (zL (rj fun K=>mv ?_)))));rw [mul_end hOl hA] at hOB;refine K1 (j0 E0 hb78 (zAk (l:=mulR p q) ⟨some ⟨ob,0,none⟩,p.length+q.length,by rw [show (mulR p q).length=p.length+q.length from by simp [mulR]];rfl,by simp [mulR],hOB.rd,by simp [mulR];omega⟩) fun v48 w9 E0 hr => ?_);refine ag (rm [0,1,4,5,6] K ?_);exact zC (en rfl E0 hr)
def powR (p:Poly):Nat→Poly
 | 0=>[1]
 | k+1=>trim (mulR (powR p k) p)
theorem powR_len (p:Poly):∀ k,(powR p k).length≤k*p.length+1
 | 0=>by simp [powR]
 | k+1=>by
  have h1:=zAz (mulR (powR p k) p);have h2:(mulR (powR p k) p).length=(powR p k).length+p.length:=by simp [mulR]
  have h3:=powR_len p k;rw [powR,Nat.add_mul];omega
theorem OneR.poly {sz:Nat} (h:OneR sz q v w):IsPoly w v [q]:=by
 obtain ⟨b,c1,c2,c3,h1,h2,h3,h4⟩:=h;refine ⟨_,1,h1,Nat.le_refl _,.inr ⟨b,0,_,rfl,h3,by simp,fun i hi => ?_⟩,by simp⟩;obtain rfl:i=0:=by simpa using hi
 exact h4
theorem zJW {vp:Value} {p:List Rat} (hp:IsPoly w vp p) (hn:n<1000000) (hbig:n*p.length+p.length+1≤4096) (hroom:∀ k,k<n→MulRoom (powR p k) p):Ret prog 124 #[vp,.int .i64 (n:Int)] w (fun r w'=>IsPoly w' r (powR p n)):=by
 have E0:Ext w w:=Ext.refl w;refine J0 18 func124 rfl (rj fun K=>ag (rm [0,1] K ?_));refine rj fun K=>K1 (j0 E0 hb125 (zFJ _) fun v7 w2 E0 N7=>K1 (zFr N7 fun v8 w4 hE N8 => ?_));replace E0:=E0.trans hE;clear hE N7;refine ag (rm [0,1,5] K ?_);refine zA (rj fun K=>ag (rm [0,1,5,6] K ?_));refine zE (zZ (X:=Nat) (fun k ρ w'=>∃ vo,Keep ρ [(0,vp),(1,.int .i64 ((n:Nat):Int)),(5,vo),(6,.int .i64 ((k:Nat):Int))]∧k≤n∧Ext w w'∧IsPoly w' vo (powR p k)) (fun k=>n-k) 0 ⟨_,(kp rfl),Nat.zero_le _,E0,N8.poly⟩ ?_);clear E0 N8;rintro k ρ1 w1 ⟨vo,hk,hkl,E0,hA⟩;refine wpe_k _ hk ?_;clear hk ρ1;refine zA (rJ fun K=>mv (K8 rfl (rm [0,1,5,6,11] K ?_)));refine K0 rfl ?_ ?_<;>intro hc
 · have hlt:k<n:=t_lt hc;clear hc;refine sk (zA (zE (rI fun K=>mv ?_)));have hlen:=powR_len p k;have hk1:k*p.length≤n*p.length:=Nat.mul_le_mul_right _ hkl;refine K1 (j0 E0 hb128 (zCp hA (hp.ext E0) (by omega) (hroom k hlt)) fun v16 w2 E0 hr=>ag (rl K (zQ (zL (K5 [0,1,5,6] ?_)))));exact rI fun K=>K8 rfl (ag (rl K (zN (⟨rfl,k+1,⟨_,⟨rfl,rfl,rfl,rfl,rfl,rfl,rfl,congrArg (Value.int .i64) (zr (by omega)),trivial⟩,by omega,E0,hr⟩,by omega⟩))))
 · have hge:=f_lt hc;obtain rfl:k=n:=by omega
   clear hc;refine zS (zw (zh (zK (zL (rJ fun K=>ag (rm [1,4,6] K ?_))))));exact zC (en rfl E0 hA)
variable {y:Rat}
theorem RAt.cell (h:RAt b q w):Cell3 b w:=by obtain ⟨cs,h1,h2,_⟩:=h;exact ⟨cs,h1,h2⟩
theorem RAt.blk (h:RAt b q w):∃ cs,Blk w b 50 cs:=by obtain ⟨cs,h1,_⟩:=h;exact ⟨cs,h1⟩
theorem zMR (hx:IsR w u x) (hy:IsR w v y) (hr:Room x y):Ret prog 111 #[u,v] w (fun r w'=>IsR w' r (x/y)):=by
 obtain ⟨xn,xd,hxv,hxn,hxd⟩:=id hx;obtain ⟨yn,yd,hyv,hyn,hyd⟩:=id hy;subst hxv;subst hyv;refine J0 14 func111 rfl (rj fun K => ?_);refine K1 (zo fun b1 w1 hb hE hB1 hs => ?_);have hgb1:w.heap.size≤b1:=by rw [hb];exact E0.size
 replace E0:=E0.trans hE;replace hx:=hx.ext hE;replace hy:=hy.ext hE;clear hE hs hb;refine K1 (zo fun b2 w2 hb hE hB2 hs => ?_);have hgb2:w.heap.size≤b2:=by rw [hb];exact E0.size
 have ne_b1_b2:b1≠b2:=by have:=hB1.lt;omega
 replace E0:=E0.trans hE;replace hx:=hx.ext hE;replace hy:=hy.ext hE;replace hB1:=hB1.ext hE;clear hE hs hb;refine K1 (zX zero50 fun b3 w3 hb hE hB3 hs => ?_);have hgb3:w.heap.size≤b3:=by rw [hb];exact E0.size
 have ne_b1_b3:b1≠b3:=by have:=hB1.lt;omega
 have ne_b2_b3:b2≠b3:=by have:=hB2.lt;omega
 replace E0:=E0.trans hE;replace hx:=hx.ext hE;replace hy:=hy.ext hE;replace hB1:=hB1.ext hE;replace hB2:=hB2.ext hE;clear hE hs hb;refine rm [2,3,4] K ?_;refine rj fun K=>K1 (zm zAc rfl hB1 (Nat.le_of_ble_eq_true rfl) (K1 (zm zAc rfl hB2 (Nat.le_of_ble_eq_true rfl) (K1 (j1 E0 hB3.ext hb198 (zLJ hx hy hr) fun v10 w2 E0 hB3 N10 => ?_)))));obtain ⟨q,rfl,hq⟩:=N10;refine mv (xt rfl (xt rfl ?_));refine K1 (zX zero50 fun bq w7 hb hE hBq hs => ?_);have hgq:w.heap.size≤bq:=by rw [hb];exact E0.size
 have hne:b3≠bq:=by have:=hB3.lt;omega
 replace E0:=E0.trans hE;replace hq:=hq.ext hE;replace hB3:=hB3.ext hE;clear hE hb hs;refine K1 (runs_rstoreK rfl hq (Cell3.of hBq rfl) fun _ w9 hU hNq => ?_);replace E0:=E0.upd hU hgq;replace hB3:=hB3.upd hU hne;clear hU hBq hq;refine ag (rm [4,5] K ?_);refine rj fun K=>K1 (runs_rAt rfl hNq fun v13 hq2=>K1 (runs_rstoreK rfl hq2 (Cell3.of hB3 rfl) fun _ w9 hU hN => ?_));replace E0:=E0.upd hU hgb3;obtain ⟨cs,hB4,hl4,hN4⟩:=hN;refine rm [4] K ?_;exact zC (zO ⟨rfl,_,zp rfl rfl rfl zAc hB4 hl4,E0,hN4⟩)
theorem shift_res (hx:x≠0) (h:IsR w v (qOf (decide (x.num.sign<0)) (if x.num.sign=0 then 0 else x.num.natAbs*2^k) x.den)):IsR w v (x*((2^k:Nat):Rat)):=by
 obtain ⟨h1,h2⟩:=zEF hx;have h3:¬ (((2^k:Nat):Rat)<0):=Rat.not_lt.2 (by exact_mod_cast Nat.zero_le _);have e:=q_mul x ((2^k:Nat):Rat);rw [decide_eq_false h3,Rat.num_natCast,Rat.den_natCast,Nat.mul_one,Int.natAbs_natCast] at e;rw [if_neg h2,h1] at h;rw [e];cases hd:decide (x<0)<;>rw [hd] at h<;>exact h
theorem Shift_ok (hx:IsR w u x) (hk:k<1000) (hf:Fit x.num.natAbs∧Fits (x.num.natAbs*2^k)∧Fits x.den):Ret prog 122 #[u,.int .i64 (k:Int)] w (fun r w'=>IsR w' r (x*((2^k:Nat):Rat))):=by
 obtain ⟨xn,xd,hxv,hxn,hxd⟩:=id hx;obtain ⟨xp,xl,xc,rfl,-⟩:=hxn.form;obtain ⟨xp2,xl2,xc2,rfl,-⟩:=hxd.form;subst hxv;refine J0 30 func122 rfl (rj fun K => ?_);refine K1 (zo fun b1 w1 hb hE hB1 hs => ?_);have hgb1:w.heap.size≤b1:=by rw [hb];exact E0.size
 replace E0:=E0.trans hE;replace hx:=hx.ext hE;replace hxn:=hxn.ext hE;replace hxd:=hxd.ext hE;clear hE hs hb;refine K1 (zX zero50 fun b2 w2 hb hE hB2 hs => ?_);have hgb2:w.heap.size≤b2:=by rw [hb];exact E0.size
 have ne_b1_b2:b1≠b2:=by have:=hB1.lt;omega
 replace E0:=E0.trans hE;replace hx:=hx.ext hE;replace hxn:=hxn.ext hE;replace hxd:=hxd.ext hE;replace hB1:=hB1.ext hE;clear hE hs hb;refine rm [1,2,4] K ?_;refine zA (zA ?_);rcases (show x=0∨x≠0 from Classical.em _) with h0 | h0
 · have hz:(x.num.sign==0)=true:=by rw [h0];rfl
   refine K6 fun K=>K1 (zB zBK rfl (K1 (zF zAr rfl hB1 rfl (K8 rfl (rs [1,2,4,7] K ?_)))));refine wct (congrArg Value.bool hz) (rj fun K=>K1 (zm zAc rfl hB1 (Nat.le_of_ble_eq_true rfl) (K1 (runs_rstoreK rfl hx (Cell3.of hB2 rfl) fun _ w9 hU hN => ?_))));replace E0:=E0.upd hU hgb2;obtain ⟨cs,hB4,hl4,hN4⟩:=hN;refine rm [4] K ?_;refine zC (zR (zO ?_));exact ⟨rfl,_,zp rfl rfl rfl zAc hB4 hl4,E0,by rw [h0,Rat.zero_mul];rw [h0] at hN4;exact hN4⟩
 · have hz:(x.num.sign==0)=false:=beq_eq_false_iff_ne.2 (zEF h0).2;rw [if_neg h0] at hxd;refine K6 fun K=>K1 (zB zBK rfl (K1 (zF zAr rfl hB1 rfl (K8 rfl (rs [1,2,4,7] K ?_)))));refine wcf (congrArg Value.bool hz) (sk (zA (rJ fun K=>K8 rfl (rm [1,2,4,10] K ?_))))
   refine wcf (congrArg Value.bool (decide_eq_false (by omega))) (sk (zA (zBH 9 [([(2,none)],none),([(21,some 0)],none),([(2,none)],none),([(23,some 0)],none),([(1,none)],none),([(24,some 1),(25,some 0)],none),([(2,none)],none),([(27,some 0)],none),([(22,some 6),(26,some 2),(28,some 0)],none)] mixed (by kernel_rfl) (by kernel_rfl) (by kernel_rfl) (by kernel_rfl) (by kernel_rfl) fun K hK=>dvp (fun σ wx hE hk=>zB zBK hk.1 ⟨Ext.refl _,rfl⟩) (dvp (fun σ wx hE hk=>zF zAr hk.1 (hB1.ext hE) rfl ⟨Ext.refl _,rfl⟩) (dvp (fun σ wx hE hk=>zB zEi hk.1 ⟨Ext.refl _,rfl⟩) (dvp (fun σ wx hE hk=>zF zAd hk.1 (hB1.ext hE) rfl ⟨Ext.refl _,rfl⟩) (dvp (fun σ wx hE hk=>zD ⟨Ext.refl _,hk.1⟩) (dcp (fun v w'=>IsN w' v (x.num.natAbs*2^k)) (fun _ _ _ _ hx h=>h.ext hx.toExt) (fun σ wx hE hk=>zG hb214 (CallK.eq2 rfl hk.2.1 (CallK.of_ret (zHk (IsN.of_eq hk.1 (hxn.ext hE)) hf.1 (by omega)) fun v w2 hX hr=>⟨hX,hr⟩)) rfl) (dvp (fun σ wx hE hk=>zB zBs hk.1 ⟨Ext.refl _,rfl⟩) (dvp (fun σ wx hE hk=>zF zAd hk.1 (hB1.ext hE) rfl ⟨Ext.refl _,rfl⟩) (dcp (fun v w'=>IsR w' v (x*((2^k:Nat):Rat))) (fun _ _ _ _ hx h=>h.ext hx.toExt) (fun σ wx hE hk=>zG hb160 (CallK.eq3 hk.1 rfl rfl (CallK.of_ret (zFA (sign3 x) hk.2.1 (IsN.of_eq hk.2.2.1 (hxd.ext hE)) x.den_nz hf.2.1 hf.2.2) fun v w2 hX hr=>⟨hX,shift_res h0 hr⟩)) rfl) (zAe (hK _ fun wq hE => ?_)))))))))))))
   rintro _ rfl _ rfl _ rfl _ rfl _ rfl v26 N26 _ rfl _ rfl v29 N29;refine zg ?_;replace E0:=E0.trans hE;replace hx:=hx.ext hE;replace hxn:=hxn.ext hE;replace hxd:=hxd.ext hE;replace hB1:=hB1.ext hE;replace hB2:=hB2.ext hE;clear hE;refine K1 (runs_rstoreK rfl N29 (Cell3.of hB2 rfl) fun _ w9 hU hN => ?_);replace E0:=E0.upd hU hgb2;obtain ⟨cs,hB4,hl4,hN4⟩:=hN;refine zCH (zL (K5 [4] ?_));exact zC (zO ⟨rfl,_,zp rfl rfl rfl zAc hB4 hl4,E0,hN4⟩)
def factN:Nat→Nat
 | 0=>1
 | k+1=>factN k*(k+1)
theorem fact_room:∀ k:Fin 45,Room ((factN k:Nat):Rat) ((k+1:Nat):Rat):=by unfold Room;decide +kernel
theorem zEf (hn:n≤40):Ret prog 123 #[.int .i64 (n:Int)] w (fun r w'=>IsR w' r ((factN n:Nat):Rat)):=by
 have E0:Ext w w:=Ext.refl w;refine J0 16 func123 rfl (rj fun K => ?_);refine K1 (zX zero50 fun b1 w1 hb hE hB1 hs => ?_);have hgb1:w.heap.size≤b1:=by rw [hb];exact E0.size
 replace E0:=E0.trans hE;clear hE hs hb;refine rm [0,2] K ?_;refine zA ?_;replace hB1:Blk _ b1 50 [.int .i64 0,.slice none 0 0,.slice none 0 0]:=hB1;refine K6 fun K=>K1 (j1 E0 hB1.ext hb125 (zFJ _) fun v5 w2 E0 hB1 N5 => ?_);refine K1 (zX zero50 fun bo w7 hb hE hBo hs => ?_);have hgo:w.heap.size≤bo:=by rw [hb];exact E0.size
 have hne:b1≠bo:=by have:=hB1.lt;omega
 replace E0:=E0.trans hE;replace N5:=N5.ext hE;replace hB1:=hB1.ext hE;clear hE hb hs;refine K1 (runs_rstoreK rfl N5 (Cell3.of hBo rfl) fun _ w9 hU hF => ?_);replace E0:=E0.upd hU hgo;replace hB1:=hB1.upd hU hne;clear hU hBo N5;refine rs [0,2,3] K ?_;refine zA (rj fun K=>ag (rm [0,2,3,4] K ?_));refine zE (zZ (X:=Nat) (fun j ρ w'=>Keep ρ [(0,.int .i64 ((n:Nat):Int)),(2,.pointer (some ⟨b1,0,none⟩)),(3,.pointer (some ⟨bo,0,none⟩)),(4,.int .i64 ((j+2:Nat):Int))]∧(j+2≤n+1∨j=0)∧Ext w w'∧Blk w' b1 50 [.int .i64 0,.slice none 0 0,.slice none 0 0]∧RAt bo ((factN (j+1):Nat):Rat) w') (fun j=>n+2-j) 0 ⟨(kp rfl),.inr rfl,E0,hB1,hF⟩ ?_);clear E0 hB1 hF;rintro j ρ1 w1 ⟨hk,hjn,E0,hB1,hF⟩;refine wpe_k _ hk ?_;clear hk ρ1;refine zA (rJ fun K=>mv (K8 rfl (rm [0,2,3,4,8] K ?_)));refine K0 rfl ?_ ?_<;>intro hc
 · have hlt:j+2≤n:=by have:=of_decide_eq_true hc;omega
   clear hc;refine sk (zA (zE (zBH 4 [([(3,none)],none),([(4,none)],none),([(12,some 0)],none),([(11,some 2),(13,some 0)],none)] mixed (by kernel_rfl) (by kernel_rfl) (by kernel_rfl) (by kernel_rfl) (by kernel_rfl) fun K hK=>dcp (fun v w'=>IsR w' v ((factN (j+1):Nat):Rat)) (fun _ _ _ _ hx h=>h.ext hx.toExt) (fun σ wx hE hk=>runs_rAt hk.1 (hF.ext hE) fun v h=>⟨Ext.refl _,h⟩) (dvp (fun σ wx hE hk=>zD ⟨Ext.refl _,hk.1⟩) (dcp (fun v w'=>IsR w' v ((j+2:Nat):Rat)) (fun _ _ _ _ hx h=>h.ext hx.toExt) (fun σ wx hE hk=>zG hb112 (CallK.eq1 hk.1 (CallK.of_ret (zDS (n:=j+2) (by omega)) fun v w2 hX hr=>⟨hX,hr⟩)) rfl) ?_)))));refine dcp (fun v w'=>IsR w' v ((factN (j+2):Nat):Rat)) (fun _ _ _ _ hx h=>h.ext hx.toExt) (fun σ wx hE hk=>zG hb121 (CallK.of_ret (zCm hk.1 hk.2.1 (fact_room ⟨j+1,by omega⟩)) fun v w2 hX hr=>⟨hX,(by rw [show factN (j+2)=factN (j+1)*(j+2) from rfl,Rat.natCast_mul];exact hr)⟩) rfl) ?_;refine zAe (hK _ fun wq hE => ?_);rintro v11 N11 _ rfl v13 N13 v14 N14;refine zg ?_;replace E0:=E0.trans hE;replace hF:=hF.ext hE;replace hB1:=hB1.ext hE;clear hE;refine K1 (runs_rstoreK rfl N14 hF.cell fun _ w9 hU hF2 => ?_);obtain ⟨fcs,hFc⟩:=hF.blk;replace E0:=E0.upd hU hgo;replace hB1:=hB1.upd hU hne;have hF:=hF2;clear hF2 hFc hU fcs N14 N11 N13;refine zCH (zQ (zL (K5 [0,2,3,4] ?_)))
   exact rI fun K=>K8 rfl (ag (rl K (zN (⟨rfl,j+1,⟨⟨rfl,rfl,rfl,rfl,rfl,rfl,rfl,congrArg (Value.int .i64) (zr (by omega)),trivial⟩,.inl (by omega),E0,hB1,hF⟩,by omega⟩))))
 · have hge:¬ j+2≤n:=fun e=>of_decide_eq_false hc (by omega);clear hc;have hfn:factN (j+1)=factN n:=by
    rcases (show j+1=n∨(j=0∧n=0) from by omega) with e | ⟨rfl,rfl⟩
    · rw [e]
    · rfl
   rw [hfn] at hF;refine zS (zw (zh (zK (zL (rj fun K=>K1 (runs_rAt rfl hF fun v15 N15=>K1 (runs_rstoreK rfl N15 (Cell3.of hB1 rfl) fun _ w9 hU hN => ?_)))))));replace E0:=E0.upd hU hgb1;obtain ⟨cs,hB4,hl4,hN4⟩:=hN;refine rm [0,2,3,4] K ?_;exact zC (zO ⟨rfl,_,zp rfl rfl rfl zAc hB4 hl4,E0,hN4⟩)
def besT (n k:Nat):Rat:=((factN (2*n-k):Nat):Rat)/(((factN k:Nat):Rat)*((2^(n-k):Nat):Rat)*((factN (n-k):Nat):Rat))
def besR (n:Nat):Poly:=(List.range (n+1)).map (besT n)
theorem fact_fit:∀ k:Fin 45,∀ j:Fin 21,Fit ((factN k:Nat):Rat).num.natAbs∧Fits (((factN k:Nat):Rat).num.natAbs*2^j.1)∧Fits ((factN k:Nat):Rat).den:=by unfold Fit Fits;decide +kernel
theorem bes_room:∀ n:Fin 21,∀ k:Fin 21,k≤n→Room (((factN k:Nat):Rat)*((2^(n.1-k.1):Nat):Rat)) ((factN (n.1-k.1):Nat):Rat)∧Room ((factN (2*n.1-k.1):Nat):Rat) (((factN k:Nat):Rat)*((2^(n.1-k.1):Nat):Rat)*((factN (n.1-k.1):Nat):Rat)):=by unfold Room;decide +kernel
theorem Bessel_ok {i:Int}:Ret prog 47 #[.int .i64 i] w (fun r w'=>∃ t,r = .tuple #[t,.int .i64 (if i<0∨20<i then 7 else 0)]∧IsPoly w' t (if i<0∨20<i then [] else besR i.toNat)):=by
 have E0:Ext w w:=Ext.refl w;refine J0 40 func47 rfl (rj fun K=>ag (ag (rm [0] K ?_)));refine zA (zA ?_);rcases (show i<0∨(¬ i<0∧20<i)∨(¬ i<0∧¬ 20<i) from by omega) with h1 | ⟨h1,h2⟩ | ⟨h1,h2⟩
 · have hb:i<0∨20<i := .inl h1;rw [if_pos hb,if_pos hb];refine rI fun K=>K9 true rfl (decide_eq_true h1) (mv (K3 (K3 (pk rfl (rs [0,12] K ?_)))));refine wct rfl (rj fun K=>ag (ag (rm [0,2,3] K ?_)));exact zC (zR (zO ⟨rfl,_,zW rfl rfl rfl,E0,_,rfl,IsPoly.nil⟩))
 · have hb:i<0∨20<i := .inr h2;rw [if_pos hb,if_pos hb];refine rI fun K=>K9 false rfl (decide_eq_false h1) (mv (K7 (K2 (zJ (v := .bool true) rfl rfl (congrArg (fun z=>some (Value.bool z)) (decide_eq_true h2)) (pk rfl (rs [0,12] K ?_))))));refine wct rfl (rj fun K=>ag (ag (rm [0,2,3] K ?_)));exact zC (zR (zO ⟨rfl,_,zW rfl rfl rfl,E0,_,rfl,IsPoly.nil⟩))
 · have hb:¬ (i<0∨20<i):=by omega
   rw [if_neg hb,if_neg hb];obtain ⟨n,rfl⟩:∃ n:Nat,i=(n:Int):=⟨i.toNat,by omega⟩;have hn20:n≤20:=by omega
   rw [Int.toNat_natCast];refine rI fun K=>K9 false rfl (decide_eq_false h1) (mv (K7 (K2 (zJ (v := .bool false) rfl rfl (congrArg (fun z=>some (Value.bool z)) (decide_eq_false h2)) (pk rfl (rs [0,12] K ?_))))));refine wcf rfl (sk (rj fun K=>ag (rm [0,4] K ?_)));refine zA (rj fun K=>ag (rm [0,4,5] K ?_));refine zE (zZ (X:=Nat) (fun k ρ w'=>∃ vo,Keep ρ [(0,.int .i64 ((n:Nat):Int)),(4,vo),(5,.int .i64 ((k:Nat):Int))]∧k≤n+1∧Ext w w'∧AccP w.heap.size w' vo ((List.range k).map (besT n))) (fun k=>n+1-k) 0 ⟨_,(kp rfl),Nat.zero_le _,E0,AccP.nil⟩ ?_);clear E0;rintro k ρ1 w1 ⟨vo,hk,hkl,E0,hA⟩;refine wpe_k _ hk ?_;clear hk ρ1;refine zA (rJ fun K=>mv (K8 rfl (rm [0,4,5,15] K ?_)));refine K0 rfl ?_ ?_<;>intro hc
   · have hlt:k≤n:=by have:=of_decide_eq_true hc;omega
     clear hc;obtain ⟨hr1,hr2⟩:=bes_room ⟨n,by omega⟩ ⟨k,by omega⟩ hlt;refine sk (zA (zE (rJ fun K=>K1 (j1 E0 hA.ext hb123 (zEf (n:=k) (by omega)) fun v19 w2 E0 hA N19=>mv (mv (K1 (zAB (a:=n) (b:=k) (n-k) rfl rfl (by omega) (by omega) (K1 (j1 E0 hA.ext hb122 (Shift_ok (k:=n-k) N19 (by omega) (fact_fit ⟨k,by omega⟩ ⟨n-k,by omega⟩)) fun v23 w2 E0 hA N23 => ?_)))))))))
     try clear N19
     refine mv (mv (K1 (zAB (a:=n) (b:=k) (n-k) rfl rfl (by omega) (by omega) (K1 (j2 E0 hA.ext N23.ext hb123 (zEf (n:=n-k) (by omega)) fun v27 w2 E0 hA N23 N27=>K1 (j1 E0 hA.ext hb121 (zCm N23 N27 hr1) fun v28 w2 E0 hA N28 => ?_))))));clear N23 N27;refine K1 (zX zero50 fun bo w7 hb hE hBo hs => ?_);have hgo:w.heap.size≤bo:=by rw [hb];exact E0.size
     have hAn:=hA.new (Nat.le_of_eq hb.symm);replace E0:=E0.trans hE;replace N28:=N28.ext hE;replace hA:=hA.ext hE;clear hE hb hs;refine K1 (runs_rstoreK rfl N28 (Cell3.of hBo rfl) fun _ w9 hU hF => ?_);replace E0:=E0.upd hU hgo;replace hA:=hA.updT hU hBo (by decide) hAn;clear hU hBo N28 hAn;refine rm [0,4,5,6] K ?_
     refine zHh 9 [([(4,none)],none),([(0,none)],none),([(30,some 0)],none),([(5,none)],none),([(31,some 1),(32,some 0)],none),([(33,some 0)],none),([(6,none)],none),([(34,some 1),(35,some 0)],none),([(36,some 0)],none)] mixed (by kernel_rfl) (by kernel_rfl) (by kernel_rfl) (by kernel_rfl) (by kernel_rfl) fun K hK=>dvp (fun σ wx hE hk=>zD ⟨Ext.refl _,hk.1⟩) (dvp (fun σ wx hE hk=>zD ⟨Ext.refl _,hk.1⟩) (dvp (fun σ wx hE hk=>zBC (a:=2) (2*n) rfl hk.1 rfl (by omega) ⟨Ext.refl _,rfl⟩) (dvp (fun σ wx hE hk=>zD ⟨Ext.refl _,hk.1⟩) (dvp (fun σ wx hE hk=>zAB (a:=2*n) (b:=k) (2*n-k) hk.1 hk.2.1 (by omega) (by omega) ⟨Ext.refl _,rfl⟩) (dcp (fun v w'=>IsR w' v ((factN (2*n-k):Nat):Rat)) (fun _ _ _ _ hx h=>h.ext hx.toExt) (fun σ wx hE hk=>zG hb123 (CallK.eq1 hk.1 (CallK.of_ret (zEf (n:=2*n-k) (by omega)) fun v w2 hX hr=>⟨hX,hr⟩)) rfl) (dcp (fun v w'=>IsR w' v (((factN k:Nat):Rat)*((2^(n-k):Nat):Rat)*((factN (n-k):Nat):Rat))) (fun _ _ _ _ hx h=>h.ext hx.toExt) (fun σ wx hE hk=>runs_rAt hk.1 (hF.ext hE) fun v h=>⟨Ext.refl _,h⟩) (dcp (fun v w'=>IsR w' v (besT n k)) (fun _ _ _ _ hx h=>h.ext hx.toExt) (fun σ wx hE hk=>zG hb111 (CallK.of_ret (zMR hk.1 hk.2.1 hr2) fun v w2 hX hr=>⟨hX,hr⟩) rfl) (dcp (fun v w'=>OneR 0 (besT n k) v w') (fun _ _ _ _ hx h=>h.ext hx.toExt) (fun σ wx hE hk=>runs_one (sz:=0) hk.1 (Nat.zero_le _)) (zAe (hK _ fun wq hE => ?_))))))))))
     rintro _ rfl _ rfl _ rfl _ rfl _ rfl v34 N34 v35 N35 v36 N36 v37 N37;refine zg ?_;replace E0:=E0.trans hE;replace hA:=hA.ext hE;replace hF:=hF.ext hE;clear hE;refine K1 (zEk rfl hA N37 (by simp;omega) E0.size fun v' w9 hN hA => ?_);replace E0:=hN.ext _ (Nat.le_refl _) E0;clear hN;refine ag (zCH (zQ (zL (K5 [0,4,5] ?_))));refine rI fun K=>K8 rfl (ag (rl K (zN ?_)));exact ⟨rfl,k+1,⟨_,⟨rfl,rfl,rfl,rfl,rfl,congrArg (Value.int .i64) (zr (by omega)),trivial⟩,by omega,E0,by rw [List.range_succ,List.map_append];exact hA⟩,by omega⟩
   · have hge:¬ k≤n:=fun e=>of_decide_eq_false hc (by omega);obtain rfl:k=n+1:=by omega
     clear hc;refine zS (zw (zh (zK (zL (rJ fun K=>ag (ag (rm [0,2,3,5] K ?_)))))));refine zC (zO ?_);exact ⟨rfl,_,zW rfl rfl rfl,E0,_,rfl,hA.poly (by simp;omega)⟩
section laws
variable {d:Option Tmp}
theorem zLx {x y:Operand} {p:Rat} (hx:IsR w (σ x) p) (hy:IsR w (σ y) q) (hk:∀ v w',Ext w w'→IsPoly w' v [p,q]→K v w'):Runs prog r ⟨d,.buildSlice 26 2 #[(0,x),(1,y)],ty,pos,af,g⟩ σ w K:=by
 have hx0:=hx;have hy0:=hy;obtain ⟨n,dd,he,hn,hd⟩:=hx;obtain ⟨n2,dd2,he2,hn2,hd2⟩:=hy;rw [he] at hx0;rw [he2] at hy0;refine zY (cs:=[.int .i64 p.num.sign,n,dd,.int .i64 q.num.sign,n2,dd2]) zCV info50' (by decide) (by decide) ?_ fun b w' hb hE hB hs'=>hk _ _ hE ⟨some ⟨b,0,none⟩,2,rfl,Nat.le_refl _,.inr ⟨b,0,_,rfl,hB,by simp,fun i hi => ?_⟩,by simp⟩
 · show Instr.fill _ _ [(0,σ x),(1,σ y)]=_;rw [he,he2]
   kernel_rfl
 · match i,hi with
   | 0,_=>exact hx0.ext hE
   | 1,_=>exact hy0.ext hE
end laws
theorem Binomial_ok {i:Int} (hroom:∀ k,k<20→MulRoom (powR [1,1] k) [1,1]):Ret prog 48 #[.int .i64 i] w (fun r w'=>∃ t,r = .tuple #[t,.int .i64 (if i<0∨20<i then 7 else 0)]∧IsPoly w' t (if i<0∨20<i then [] else powR [1,1] i.toNat)):=by
 refine J0 15 func48 rfl (rj fun K=>ag (ag (rm [0] K ?_)));refine zA (zA ?_);rcases (show i<0∨(¬ i<0∧20<i)∨(¬ i<0∧¬ 20<i) from by omega) with h1 | ⟨h1,h2⟩ | ⟨h1,h2⟩
 · have hb:i<0∨20<i := .inl h1;rw [if_pos hb,if_pos hb];refine rI fun K=>K9 true rfl (decide_eq_true h1) (mv (K3 (K3 (pk rfl (rs [0,9] K ?_)))));refine wct rfl (rj fun K=>ag (ag (rm [2,3] K ?_)));exact zC (zR (zO ⟨rfl,_,zW rfl rfl rfl,E0,_,rfl,IsPoly.nil⟩))
 · have hb:i<0∨20<i := .inr h2;rw [if_pos hb,if_pos hb];refine rI fun K=>K9 false rfl (decide_eq_false h1) (mv (K7 (K2 (zJ (v := .bool true) rfl rfl (congrArg (fun z=>some (Value.bool z)) (decide_eq_true h2)) (pk rfl (rs [0,9] K ?_))))));refine wct rfl (rj fun K=>ag (ag (rm [2,3] K ?_)));exact zC (zR (zO ⟨rfl,_,zW rfl rfl rfl,E0,_,rfl,IsPoly.nil⟩))
 · have hb:¬ (i<0∨20<i):=by omega
   rw [if_neg hb,if_neg hb];obtain ⟨n,rfl⟩:∃ n:Nat,i=(n:Int):=⟨i.toNat,by omega⟩;have hn20:n≤20:=by omega
   rw [Int.toNat_natCast];refine rI fun K=>K9 false rfl (decide_eq_false h1) (mv (K7 (K2 (zJ (v := .bool false) rfl rfl (congrArg (fun z=>some (Value.bool z)) (decide_eq_false h2)) (pk rfl (rs [0,9] K ?_))))));refine wcf rfl (sk (rj fun K=>K1 (j0 E0 hb125 (zFJ _) fun v10 w2 E0 N10=>K1 (j1 E0 N10.ext hb125 (zFJ _) fun v11 w2 E0 N10 N11=>K1 (zLx N10 N11 fun v12 w4 hE N12 => ?_)))));replace E0:=E0.trans hE;clear hE N10 N11;refine mv ?_;refine K1 (j0 E0 hb124 (zJW (n:=n) N12 (by omega) (by show n*2+2+1≤4096;omega) (fun k hk=>hroom k (by omega))) fun v14 w2 E0 hr => ?_);refine ag (ag (rm [2,3] K ?_));exact zC (zO ⟨rfl,_,zW rfl rfl rfl,E0,_,rfl,hr⟩)
end Go.Proofs.YtjiendlfobjanaaGreatDoor.R
namespace Go.Proofs.YtjiendlfobjanaaGreatDoor
open Go Go.RowKit Go.Proofs Tryz Go.Shelf Go.Sort
variable {b c i k:Nat} {cs:List Value} {q:Rat} {w:World}
def revRen:Go.Shelf.Ren:=⟨fun | 35=>98 | n=>n,fun | 22=>25 | 23=>37 | 0=>0 | 3=>3 | 4=>4 | n=>n,fun n=>n⟩
theorem revLays:SlLaysE0.n35 prog revRen:={
 mixed:=by kernel_rfl
 f35:=⟨Tryz.f98.name,by kernel_rfl,func98.trans (congrArg some (by kernel_rfl))⟩
 t0:=Tryz.underlying0
 a0:=Tryz.isAgg0
 z0:=Tryz.sizeOf0
 v0:=Tryz.zeroValue0
 t3:=Tryz.underlying3
 a3:=Tryz.isAgg3
 z3:=Tryz.sizeOf3
 v3:=Tryz.zeroValue3
 t4:=Tryz.underlying4
 a4:=Tryz.isAgg4
 z4:=Tryz.sizeOf4
 v4:=Tryz.zeroValue4
 t22:=Tryz.underlying25
 a22:=Tryz.isAgg25
 z22:=Tryz.sizeOf25
 v22:=Tryz.zeroValue25 }
abbrev C3:=Bool×(Option Addr×Nat×Nat)×(Option Addr×Nat×Nat)
def enc3 (x:C3):List Value:=[.bool x.1,.slice x.2.1.1 x.2.1.2.1 x.2.1.2.2,.slice x.2.2.1 x.2.2.2.1 x.2.2.2.2]
theorem num_enc {l:List Value} (h:IsNum w (.agg l.toArray) q):∃ x,l=enc3 x:=by
 obtain ⟨n,d,e,⟨p,ds,c,rfl,_⟩,⟨p',ds',c',rfl,_⟩⟩:=h;refine ⟨(decide (q<0),(p,ds.length,c),(p',ds'.length,c')),?_⟩;have h1:=Value.agg.inj e;exact congrArg Array.toList h1
theorem zHG (hk:k<3) (hl:3*i+3≤cs.length):((cs.drop (3*i)).take 3)[k]? = cs[3*i+k]? := by
 rw [List.getElem?_take,if_pos hk,List.getElem?_drop]
theorem Rev_ok {l:Poly} (hB:PBlk w b l) (hl:l.length≤4096):CallK prog 98 #[.slice (some ⟨b,0,none⟩) l.length c] w (fun _ w'=>Upd b w w'∧PBlk w' b l.reverse):=by
 obtain ⟨cs,h1,h2,h3⟩:=hB;have hx:∀ i:Fin l.length,∃ x,(cs.drop (3*i.1)).take 3=enc3 x:=fun i=>num_enc (h3 i.1 i.2);obtain ⟨d,hd,hdi⟩:∃ d:Array C3,d.size=l.length∧∀ i,(h:i<l.length)→(cs.drop (3*i)).take 3=enc3 d[i]! := by
  refine ⟨Array.ofFn fun i=>Classical.choose (hx i),by simp,fun i h => ?_⟩;rw [getElem!_pos _ i (by simpa using h),Array.getElem_ofFn];exact Classical.choose_spec (hx ⟨i,h⟩)
 have hcell:∀ i k,i<l.length→k<3→cs[3*i+k]? = some (enc3 d[i]!)[k]! := fun i k hi hk=>by
  rw [← zHG hk (by omega),hdi i hi,getElem!_pos _ k (by exact hk),List.getElem?_eq_getElem (by exact hk)]
 have hH:HoldsK enc3 3 w b 0 d:=fun j hj=>by
  rw [size_flatK,hd] at hj;rw [get_flatK _ _ _ _ (by rw [hd];exact hj),Nat.zero_add];refine ⟨?_,?_⟩
  · rw [Blk.cell h1];have:=hcell (j/3) (j%3) (by omega) (by omega);rw [show 3*(j/3)+j%3=j by omega] at this;exact this
  · unfold World.frozen?;rw [show w.heap[(⟨b,j,none⟩:Addr).block]? = _ from h1];simp
 have hc:=AnyQ.slices_Reverse revLays 3 Tryz.isAgg37 Tryz.sizeOf37 enc3 (fun _=>rfl) (fun x v hv=>by
  unfold enc3 at hv;simp only [List.mem_cons,List.not_mem_nil,or_false] at hv;rcases hv with rfl | rfl | rfl<;>rfl) b 0 c d w hH (by omega)
 rw [hd] at hc;refine Calls.mono hc ?_;rintro e w' ⟨rfl,n,rfl⟩;refine ⟨_,rfl,?_⟩;have hb:w.heap[b]? = some (.cells ⟨cs⟩ 37 (0,0)):=h1;have hheap:∀ k,(putRowK enc3 3 (Go.Sort.ahead w n) b 0 d.reverse).heap[k]? = if b=k then (w.heap[k]?).map (onCells (putCells id 0 (flatK enc3 3 d.reverse))) else w.heap[k]? := fun k=>by
  show (w.heap.modify b _)[k]? = _;rw [Array.getElem?_modify]
 have hB':Blk (putRowK enc3 3 (Go.Sort.ahead w n) b 0 d.reverse) b 37 (putCells id 0 (flatK enc3 3 d.reverse) ⟨cs⟩).toList:=by
  show _=_;rw [hheap,if_pos rfl,hb];rfl
 have hU:Upd b w (putRowK enc3 3 (Go.Sort.ahead w n) b 0 d.reverse):=⟨rfl,rfl,rfl,by show (w.heap.modify b _).size=_;simp,fun k hk=>by rw [hheap,if_neg (Ne.symm hk)],fun T cs' hk=>by
  obtain ⟨rfl,rfl⟩:=h1.inj hk;exact ⟨_,hB'⟩⟩
 refine ⟨hU,_,hB',?_,fun i hi => ?_⟩
 · rw [List.length_reverse];simp [putCells,h2]
 · rw [List.length_reverse] at hi;have e:(((putCells id 0 (flatK enc3 3 d.reverse) ⟨cs⟩).toList.drop (3*i)).take 3)=(cs.drop (3*(l.length-1-i))).take 3:=by
    have hlen:(putCells id 0 (flatK enc3 3 d.reverse) ⟨cs⟩).toList.length=cs.length:=by simp [putCells]
    refine List.ext_getElem? fun k => ?_;by_cases hk:k<3
    · rw [zHG hk (by rw [hlen];omega),zHG hk (by omega),hcell _ k (by omega) hk];have:(putCells id 0 (flatK enc3 3 d.reverse) ⟨cs⟩).toList[3*i+k]? = some (flatK enc3 3 d.reverse)[3*i+k]! := by
       rw [Array.getElem?_toList];unfold putCells;rw [Array.getElem?_mapIdx];have hh:((⟨cs⟩:Array Value)[3*i+k]?).isSome:=by simp;omega
       obtain ⟨z,hz⟩:=Option.isSome_iff_exists.1 hh;rw [hz,Option.map_some,if_pos ⟨Nat.zero_le _,by rw [size_flatK,Array.size_reverse,hd];omega⟩];rfl
      rw [this,get_flatK _ _ _ _ (by rw [Array.size_reverse,hd];omega),show (3*i+k)/3=i by omega,show (3*i+k)%3=k by omega];rw [getElem!_pos d.reverse i (by rw [Array.size_reverse,hd];exact hi),Array.getElem_reverse,getElem!_pos d (l.length-1-i) (by omega)];simp only [hd]
    · rw [List.getElem?_eq_none (by simp;omega),List.getElem?_eq_none (by simp;omega)]
   rw [e];have:=(h3 (l.length-1-i) (by omega)).upd hU h1 (by decide);have e2:l.reverse.getD i 0=l.getD (l.length-1-i) 0:=by
    rw [List.getD_eq_getElem?_getD,List.getD_eq_getElem?_getD,List.getElem?_reverse hi]
   rw [e2];exact this
end Go.Proofs.YtjiendlfobjanaaGreatDoor
namespace Go.Proofs.YtjiendlfobjanaaGreatDoor
variable {B a b:Nat} {p:Poly} {s:Bool}
theorem zKK (hb:b≠0) (ha:a<B) (hb1:b<B):(qOf s a b).num.natAbs<B∧(qOf s a b).den<B:=by
 rw [zFv hb,zHX hb];exact ⟨Nat.lt_of_le_of_lt (Nat.div_le_self _ _) ha,Nat.lt_of_le_of_lt (Nat.div_le_self _ _) hb1⟩
theorem zIi {l:List UInt8} (h:l.length≤40) (hd:l.all isDig=true):natS l<10^40 :=
 Nat.lt_of_lt_of_le (zGB _ l rfl hd) (Nat.pow_le_pow_right (by decide) h)
theorem zHD {l:List UInt8} (h:l.length≤40):(ze l).1.num.natAbs<10^40∧(ze l).1.den<10^40:=by
 have h0:((0:Rat)).num.natAbs<10^40∧((0:Rat)).den<10^40:=by decide
 have hu:=zEb l;obtain ⟨h1,h2⟩:=zFp 47 (zP l);rw [zAi];split
 · exact h0
 · rename_i c1;split
   · exact h0
   · rename_i c2;split
     · exact h0
     · have hp:zAM (cutAt 47 (zP l)).1=true:=by
        cases hp:zAM (cutAt 47 (zP l)).1 with
        | true=>rfl
        | false=>rw [hp] at c1;simp at c1
       have n1:=zIi (show (cutAt 47 (zP l)).1.length≤40 by omega) (zAo hp);split
       · exact zKK (by decide) n1 (by decide)
       · rename_i c4;have ht:(cutAt 47 (zP l)).2.2=true:=by
          cases ht:(cutAt 47 (zP l)).2.2 with
          | true=>rfl
          | false=>rw [ht] at c4;simp at c4
         have hq:zAM (cutAt 47 (zP l)).2.1=true∧((cutAt 47 (zP l)).2.1==[48])=false:=by
          rw [ht] at c2;cases hq:zAM (cutAt 47 (zP l)).2.1<;>cases hz:((cutAt 47 (zP l)).2.1==[48])<;>simp [hq,hz] at c2 ⊢
         split
         · exact h0
         · exact zKK (zDl hq.1 hq.2).1 n1 (zIi (by omega) (zAo hq.1))
theorem zMl {B:Nat} (hB:1≤B):∀ p:Poly,(∀ q,q∈p→q.num.natAbs≤B∧q.den≤B)→∃ D:Int,D≠0∧D.natAbs≤B^p.length∧∀ k,∃ z:Int,co p k*D=z∧z.natAbs≤B^p.length
 | [],_=>⟨1,by decide,by simp,fun k=>⟨0,by rw [zCu];simp,by simp⟩⟩
 | x :: p,h=>by
  obtain ⟨D,d1,d2,d3⟩:=zMl hB p fun q hq=>h q (List.mem_cons_of_mem _ hq);obtain ⟨x1,x2⟩:=h x (List.mem_cons_self ..);have hx0:(x.den:Int)≠0:=by have:=x.den_nz;omega
  have hxe:x*(x.den:Rat)=(x.num:Rat):=by
   have e1:(x.num:Rat)/(x.den:Rat)=x:=by rw [← Rat.mkRat_eq_div];exact Rat.mkRat_self x
   have e2:(x.den:Rat)≠0:=by exact_mod_cast x.den_nz
   grind
  refine ⟨x.den*D,Int.mul_ne_zero hx0 d1,?_,fun k => ?_⟩
  · rw [Int.natAbs_mul,List.length_cons,Nat.pow_succ,Nat.mul_comm];exact Nat.mul_le_mul d2 (by simpa using x2)
  · cases k with
    | zero =>
     refine ⟨x.num*D,?_,?_⟩
     · rw [zCS,Rat.intCast_mul,Rat.intCast_mul,← hxe,← Rat.mul_assoc];rfl
     · rw [Int.natAbs_mul,List.length_cons,Nat.pow_succ,Nat.mul_comm];exact Nat.mul_le_mul d2 x1
    | succ k =>
     obtain ⟨z,z1,z2⟩:=d3 k;refine ⟨x.den*z,?_,?_⟩
     · rw [zBB,Rat.intCast_mul,Rat.intCast_mul,← z1];grind
     · rw [Int.natAbs_mul,List.length_cons,Nat.pow_succ,Nat.mul_comm];exact Nat.mul_le_mul z2 (by simpa using x2)
theorem ch_small (m:Nat) (hl:p.length≤m) (h:∀ q,q∈p→q.num.natAbs<10^40∧q.den<10^40):CH (133*m+1) p:=by
 have h40:10^40≤2^133:=by decide
 obtain ⟨D,d1,d2,d3⟩:=zMl (B:=2^133) (by decide) p fun q hq=>by
  obtain ⟨a,b⟩:=h q hq;omega
 have hp:(2^133)^p.length≤2^(133*m):=by
  rw [← Nat.pow_mul];exact Nat.pow_le_pow_right (by decide) (Nat.mul_le_mul_left _ hl)
 refine ⟨D,d1,?_,fun k => ?_⟩
 · rw [Nat.pow_succ,Nat.mul_comm (2^(133*m))];exact Nat.mul_le_mul_left 2 (Nat.le_trans d2 hp)
 · obtain ⟨z,z1,z2⟩:=d3 k;exact ⟨z,z1,by rw [Nat.pow_succ,Nat.mul_comm (2^(133*m))];exact Nat.mul_le_mul_left 2 (Nat.le_trans z2 hp)⟩
theorem CH.of_co {P Q:Poly} (h:CH a P) (e:∀ k,co Q k=co P k):CH a Q:=let ⟨D,h⟩:=h;⟨D,h.of_co e⟩
def high (p:Poly):Poly×Int:=if 41<(trim p).length then ([],3) else if trim p=[] then ([],8) else (trim (trim p).reverse,0)
def denL (w:Rat):Poly→Rat→Option Poly
 | [],_=>some []
 | c :: p,f=>(rdiv c f).bind fun x=>(rmul f w).bind fun g=>(denL w p g).bind fun r=>some (x :: r)
def zEv (p:Poly) (w:Rat):Option (Poly×Int):=if 41<(trim p).length then some ([],3) else if 0<w then (denL w (trim p) 1).map fun l=>(l,0) else some ([],7)
theorem zJT (x y:Rat):∀ n:Nat,(x*y)^n=x^n*y^n
 | 0=>by rw [Rat.pow_zero,Rat.pow_zero,Rat.pow_zero,Rat.mul_one]
 | n+1=>by rw [Rat.pow_succ,zJT x y n,Rat.pow_succ,Rat.pow_succ];grind
def Qt (a:Nat) (w:Rat):Prop:=∃ D z:Int,D≠0∧w*D=z∧D.natAbs≤2^a∧z.natAbs≤2^a
theorem zNA {x:Int} (h:x.natAbs≤2^a) (k:Nat):(x^k).natAbs≤2^(a*k):=by
 rw [Int.natAbs_pow,Nat.pow_mul];exact Nat.pow_le_pow_left h k
theorem zNW {w:Rat} (h:Qt a w) (k:Nat):Qt (a*k) (w^k):=by
 obtain ⟨D,z,h1,h2,h3,h4⟩:=h;refine ⟨D^k,z^k,Int.pow_ne_zero h1,?_,zNA h3 k,zNA h4 k⟩;rw [Rat.intCast_pow,Rat.intCast_pow,← zJT,h2]
theorem qt_sz {w:Rat} (h:Qt a w):sz w≤2*(a+1):=by
 obtain ⟨D,z,h1,h2,h3,h4⟩:=h;exact sz_of h1 h2 (by rw [Nat.pow_succ];omega) (by rw [Nat.pow_succ];omega)
theorem zMh {w:Rat} (h:Qt a w) (hab:a≤b):Qt b w:=by
 obtain ⟨D,z,h1,h2,h3,h4⟩:=h;have:=Nat.pow_le_pow_right (show 0<2 by decide) hab;exact ⟨D,z,h1,h2,by omega,by omega⟩
theorem zNS {w:Rat} (hw:w≠0) (h:Qt a w):Qt a (1/w):=by
 obtain ⟨D,z,h1,h2,h3,h4⟩:=h;have hD:=ne_cast h1;have hz:(z:Rat)≠0:=by rw [← h2];intro e;rcases Rat.mul_eq_zero.1 e with e | e<;>contradiction
 exact ⟨z,D,fun e=>hz (by rw [e];rfl),by rw [← h2];grind,h4,h3⟩
theorem zLa {l:List UInt8} (h:l.length≤40):Qt 133 (ze l).1:=by
 obtain ⟨h1,h2⟩:=zHD h;have h40:10^40≤2^133:=by decide
 generalize (ze l).1=x at *;refine ⟨x.den,x.num,by have:=x.den_nz;omega,?_,by simp;omega,by omega⟩;have e1:(x.num:Rat)/(x.den:Rat)=x:=by rw [← Rat.mkRat_eq_div];exact Rat.mkRat_self x
 have e2:(x.den:Rat)≠0:=by exact_mod_cast x.den_nz
 show x*((x.den:Nat):Rat)=_;grind
theorem zMg {w:Rat} (hw:w≠0) (k:Nat):(1/w)^k*w^k=1:=by
 rw [← zJT,show 1/w*w=1 by grind]
 induction k with
 | zero=>rfl
 | succ k ih=>rw [Rat.pow_succ,ih,Rat.mul_one]
theorem zNN {w:Rat} (hw:w≠0) (k:Nat):w^k≠0:=fun e=>by
 have:=zMg hw k;rw [e] at this;grind
end Go.Proofs.YtjiendlfobjanaaGreatDoor
namespace Go.Proofs.YtjiendlfobjanaaGreatDoor
open Go Go.RowKit Go.Proofs Tryz
set_option maxRecDepth 10000
set_option maxHeartbeats 2000000
attribute [local irreducible] Runs WPE CallK Ret
variable {K K':Value→World→Prop} {P:Program} {args:Array Value} {cv v:Value} {f:FuncId} {i:Nat} {p:Poly} {w:World} {x:Rat}
theorem CallK.imp (h:CallK P f args w K) (hk:∀ v w',K v w'→K' v w'):CallK P f args w K':=by
 unfold CallK at *;exact Calls.mono h fun _ _ ⟨v,e,q⟩=>⟨v,e,hk v _ q⟩
theorem High_ok (hp:IsPoly w v p):Ret prog 35 #[v] w (fun r w'=>∃ u,r = .tuple #[u,.int .i64 (high p).2]∧IsOwn w.heap.size w' u (high p).1):=by
 have E0:Ext w w:=Ext.refl w;refine J0 15 func35 rfl (rj fun K=>ag (ag (rm [0] K ?_)));refine zA (rJ fun K=>K1 (j1 E0 hp.ext hb79 (zFs hp) fun vi w2 E0 hp hr => ?_));subst hr;refine rm [0,5] K ?_;refine K0 rfl ?_ ?_<;>intro hc
 · have h41:41<(trim p).length:=of_decide_eq_true hc;clear hc;rw [show high p=([],3) from by unfold high;rw [if_pos h41]];refine rj fun K=>ag (ag (rm [2,3] K ?_));exact zC (zR (zO ⟨rfl,_,zW rfl rfl rfl,E0,_,rfl,IsOwn.nil⟩))
 · have h41:¬ 41<(trim p).length:=of_decide_eq_false hc;clear hc;refine sk (rj fun K=>mv ?_);have hsz:=E0.size;refine K1 (j0 E0 hb34 (zAk hp) fun v7 w2 E0 N7 => ?_);obtain ⟨tp,tc,rfl,htc,hTR,htl,hto⟩:=N7;refine ag (rm [0] K ?_);refine zA (rJ fun K=>K1 (zH zAA rfl (K8 rfl (rm [0,10] K ?_))));refine K0 rfl ?_ ?_<;>intro hc
   · have h0:trim p=[]:=List.eq_nil_of_length_eq_zero (by have:=eq_of_beq hc;omega);clear hc;rw [show high p=([],8) from by unfold high;rw [if_neg h41,if_pos h0]];refine rj fun K=>ag (ag (rm [2,3] K ?_));exact zC (zR (zO ⟨rfl,_,zW rfl rfl rfl,E0,_,rfl,IsOwn.nil⟩))
   · have h0:trim p≠[]:=fun e=>by rw [e] at hc;cases hc
     clear hc;rw [show high p=(trim (trim p).reverse,0) from by unfold high;rw [if_neg h41,if_neg h0]];refine sk (zA ?_);obtain ⟨tb,rfl,hgt⟩:=hto h0;have hge:w.heap.size≤tb:=Nat.le_trans hsz hgt;have hTB:=hTR.blk h0;clear hTR hgt;refine rI fun K=>K1 (zG hb98 (CallK.imp (Rev_ok hTB htl) fun vr w2 hr => ?_) rfl);obtain ⟨hU,hTB⟩:=hr;replace E0:=E0.upd hU hge;clear hU;have hTP:IsPoly w2 (.slice (some ⟨tb,0,none⟩) (trim p).length tc) (trim p).reverse:=⟨_,tc,by rw [List.length_reverse],by rw [List.length_reverse];exact htc,hTB.rd,by rw [List.length_reverse];exact htl⟩;clear hTB hsz;have hsz:=E0.size;refine rs [0] K ?_;refine rJ fun K=>K1 (j0 E0 hb34 (zAk hTP) fun v14 w2 E0 N14=>ag (ag (rm [2,3] K ?_)));exact zC (zO ⟨rfl,_,zW rfl rfl rfl,E0,_,rfl,N14.sz hsz⟩)
theorem zLi (x:Rat):rsign x≤0↔¬ 0<x:=by
 by_cases h0:x=0
 · subst h0;decide
 · rcases rsign_cases h0 with ⟨h1,h2⟩ | ⟨h1,h2⟩
   · rw [h2];exact ⟨fun e=>by omega,fun e=>absurd h1 e⟩
   · rw [h2];exact ⟨fun _=>by grind,fun _=>by decide⟩
theorem above1_ok (hx:IsNum w v x):Ret prog 190 #[v] w (fun r _=>r = .bool (decide (¬ 0<x))):=by
 have hx0:=hx;obtain ⟨xn,xd,rfl,hxn,hxd⟩:=hx0;refine J0 6 func190 rfl (rj fun K => ?_);refine K1 (zo fun b1 w1 hb hE hB1 hs => ?_);have hgb1:w.heap.size≤b1:=by rw [hb];exact E0.size
 replace E0:=E0.trans hE;replace hx:=hx.ext hE;clear hE hs hb;refine ag (rm [1] K ?_);refine zA ?_;have hNX:NumAt b1 x _:=⟨_,hB1,rfl,hx⟩;refine K6 fun K=>K1 (zU rfl hNX fun v3 N3=>K1 (j0 E0 hb19 (zAT N3) fun vi w2 E0 hr => ?_));subst hr;refine K8 rfl (ag (rs [2] K ?_));exact zC (en rfl E0 (congrArg Value.bool (decide_eq_decide.2 (by rw [zLi]))))
theorem zEI {l:Poly} (h:i<l.length):l.drop i=l.getD i 0 :: l.drop (i+1):=by
 rw [List.drop_eq_getElem_cons h];simp [h]
theorem IndexN_ok {c:Poly} {pr:Rat→Bool} (hc:IsPoly w cv c) (hf:zAy prog f) (hsig:∀ i,i<c.length→∀ (w':World) (v:Value),Ext w w'→IsNum w' v (c.getD i 0)→Ret prog f #[v] w' (fun u _=>u = .bool (pr (c.getD i 0)))):Ret prog 265 #[cv,.func (.func f) #[] #[]] w (fun u _=>u = .int .i64 (idxL pr c 0)):=by
 obtain ⟨cp,cc,rfl,hcc,hC,hcl⟩:=hc;have E0:Ext w w:=Ext.refl w;refine J0 19 func265 rfl (rj fun K=>ag (rm [0,1] K ?_));refine zA (rJ fun K=>K1 (zH zAA rfl (mv (rm [0,1,7,8] K ?_))));refine zE (zZ (X:=Nat) (fun i ρ w'=>Keep ρ [(0,.slice cp c.length cc),(1,.func (.func f) #[] #[]),(7,.int .i64 (c.length:Nat)),(8,.int .i64 (i:Nat))]∧i≤c.length∧Ext w w'∧idxL pr (c.drop i) i=idxL pr c 0) (fun i=>c.length-i) 0 ⟨(kp rfl),Nat.zero_le _,E0,rfl⟩ ?_);clear E0;rintro i ρ1 w1 ⟨hk,hil,E0,hI⟩;refine wpe_k _ hk ?_;clear hk ρ1;refine rj fun K=>K8 rfl (rm [0,1,7,8,9] K ?_);refine zA ?_;refine K0 rfl ?_ ?_<;>intro hc
 · have hlt:i<c.length:=t_lt hc;clear hc;have hC1:=hC.ext E0;rw [zEI (by omega),idxL] at hI;refine sk (zA (zE (rJ fun K=>ag (rm [0,1,5,7,8] K ?_))));refine rJ fun K=>mv (mv (K1 (runs_pindex (l:=c) hC1 rfl rfl hlt (K1 (runs_pload hC1 hlt rfl fun v15 N15=>K1 (zCG rfl hf (CallK.of_ret (hsig i hlt _ v15 E0 N15) fun v19 w2 hE hr => ?_)))))));subst hr;replace E0:=E0.trans hE;clear hE N15 hC1;refine rm [0,1,5,7,8,16] K ?_;refine K0 rfl ?_ ?_<;>intro hc
   · have hcc2:pr (c.getD i 0)=true:=hc;clear hc;rw [if_pos hcc2] at hI;refine rJ fun K=>ag (rm [0,1,4,7,8] K ?_);refine zC (zV (zR (zAH (zV (zR (zO ?_))))));exact ⟨rfl,_,zi rfl rfl,E0,by rw [← hI];rfl⟩
   · have hcc2:pr (c.getD i 0)=false:=hc;clear hc;rw [if_neg (by rw [hcc2];decide)] at hI;exact zn (zQ (zL (K6 fun K=>K8 rfl (mv (rl K (zN (⟨rfl,i+1,⟨⟨rfl,rfl,rfl,rfl,rfl,rfl,rfl,congrArg (Value.int .i64) (zr (by omega)),trivial⟩,by omega,E0,hI⟩,by omega⟩)))))))
 · have hge:=f_lt hc;obtain rfl:i=c.length:=by omega
   clear hc;rw [List.drop_eq_nil_of_le (by omega),idxL] at hI;refine zS (zw (zh (zK (zL (rj fun K=>ag (rm [0,1,4,7,8] K ?_))))));refine zC (zO ?_);exact ⟨rfl,_,zi rfl rfl,E0,by rw [← hI];rfl⟩
theorem ContainsN_ok {c:Poly} {pr:Rat→Bool} (hc:IsPoly w cv c) (hf:zAy prog f) (hsig:∀ i,i<c.length→∀ (w':World) (v:Value),Ext w w'→IsNum w' v (c.getD i 0)→Ret prog f #[v] w' (fun u _=>u = .bool (pr (c.getD i 0)))):Ret prog 189 #[cv,.func (.func f) #[] #[]] w (fun u _=>u = .bool (c.any pr)):=by
 refine J0 9 func189 rfl (rj fun K=>ag (rm [0,1] K ?_));refine rJ fun K=>mv (K1 (j0 E0 hb265 (IndexN_ok hc hf hsig) fun vi w2 E0 hr => ?_));subst hr;refine K8 rfl (ag (rm [4] K ?_));refine zC (zO ?_);exact ⟨rfl,_,zi rfl rfl,E0,congrArg Value.bool (by
  rcases @zFx _ pr c 0 with ⟨e1,e2⟩ | ⟨e1,e2,e3⟩
  · rw [e2];exact decide_eq_false (by omega)
  · rw [e3];exact decide_eq_true (by omega))⟩
theorem zIt (hp:IsPoly w v p):Ret prog 99 #[v] w (fun u _=>u = .bool (!(p.any fun x=>decide (¬ 0<x)))):=by
 refine J0 6 func99 rfl (rj fun K=>ag (rm [0] K ?_));refine rJ fun K=>K1 (j0 E0 hb189 (ContainsN_ok (pr:=fun x=>decide (¬ 0<x)) hp hb190 fun i hi w2 v hE hv=>above1_ok hv) fun vi w2 E0 hr => ?_);subst hr;refine K1 (zl rfl (ag (rm [2] K ?_)));exact zC (en rfl E0 rfl)
variable {u:Value}
theorem Denorm_ok {R:Poly×Int} (hp:IsPoly w v p) (hx:IsNum w u x) (h0:trim p≠[]) (h:zEv p x=some R):Ret prog 36 #[v,u] w (fun r w'=>∃ t,r = .tuple #[t,.int .i64 R.2]∧IsOwn w.heap.size w' t R.1):=by
 obtain ⟨xn,xd,rfl,hxn,hxd⟩:=hx;have hx:IsNum w (.agg #[.bool (decide (x<0)),xn,xd]) x:=⟨_,_,rfl,hxn,hxd⟩;clear hxn hxd;have E0:Ext w w:=Ext.refl w;refine J0 38 func36 rfl (rj fun K => ?_);refine K1 (zo fun b1 w1 hb hE hB1 hs => ?_);have hgb1:w.heap.size≤b1:=by rw [hb];exact E0.size
 replace E0:=E0.trans hE;replace hp:=hp.ext hE;replace hx:=hx.ext hE;clear hE hs hb;refine ag (ag (rm [0,3] K ?_));refine zA (zE (zA ?_));have hNX:NumAt b1 x _:=⟨_,hB1,rfl,hx⟩;clear hB1 hx;refine rI fun K=>K1 (j2 E0 hp.ext hNX.ext hb79 (zFs hp) fun vi w2 E0 hp hNX hr => ?_);subst hr;refine ag (rs [0,3,8] K ?_);refine K0 rfl ?_ ?_<;>intro hc
 · have h41:41<(trim p).length:=of_decide_eq_true hc;clear hc;obtain rfl:R=([],3):=by unfold zEv at h;rw [if_pos h41] at h;exact (Option.some.inj h).symm
   refine rj fun K=>ag (ag (rm [0,3,4,5] K ?_));exact zC (zV (zR (zO ⟨rfl,_,zW rfl rfl rfl,E0,_,rfl,IsOwn.nil⟩)))
 · have h41:¬ 41<(trim p).length:=of_decide_eq_false hc;clear hc;refine rj fun K=>K1 (zU rfl hNX fun v12 N12 => ?_);obtain ⟨n12,d12,rfl,hn12,hd12⟩:=N12;have N12:IsNum _ (.agg #[.bool (decide (x<0)),n12,d12]) x:=⟨_,_,rfl,hn12,hd12⟩;clear hn12 hd12;refine K1 (zY (cs:=[.bool (decide (x<0)),n12,d12]) zAX info37' (by decide) (by decide) (by kernel_rfl) fun sb w10 hb hE hBb hs => ?_);replace E0:=E0.trans hE;replace hp:=hp.ext hE;replace hNX:=hNX.ext hE;replace N12:=N12.ext hE;clear hE hb hs;have hS:IsPoly _ (.slice (some ⟨sb,0,none⟩) 1 1) [x]:=⟨_,1,rfl,Nat.le_refl _,.inr ⟨sb,0,_,rfl,hBb,by simp,fun i hi=>by
    obtain rfl:i=0:=by simp at hi;omega
    exact N12⟩,by simp⟩
   clear hBb N12;refine K1 (j2 E0 hp.ext hNX.ext hb99 (zIt hS) fun vi w2 E0 hp hNX hr => ?_);subst hr;clear hS;refine K1 (zl rfl (ag (rm [0,3,11] K ?_)));refine K0 rfl ?_ ?_<;>intro hc
   · have hx0:¬ 0<x:=by simpa using hc
     clear hc;obtain rfl:R=([],7):=by unfold zEv at h;rw [if_neg h41,if_neg hx0] at h;exact (Option.some.inj h).symm
     refine rj fun K=>ag (ag (rm [0,3,4,5] K ?_));exact zC (zV (zR (zO ⟨rfl,_,zW rfl rfl rfl,E0,_,rfl,IsOwn.nil⟩)))
   · have hx0:0<x:=by simpa using hc
     clear hc;unfold zEv at h;rw [if_neg h41,if_pos hx0] at h;obtain ⟨Rl,hden,rfl⟩:=map_some h;clear h;refine zn (zQ (zL (rj fun K=>mv ?_)));have hsz:=E0.size;have hlt:=hNX.lt;refine K1 (j1 E0 hNX.ext hb34 (zAk hp) fun v17 w2 E0 hNX N17 => ?_);generalize trim p=T at h0 h41 hden N17;obtain ⟨tp,tc,rfl,htc,hTR,htl,hto⟩:=N17;obtain ⟨tb,rfl,hgt⟩:=hto h0;have hne0:b1≠tb:=by omega
     replace hgt:w.heap.size≤tb:=Nat.le_trans hsz hgt;have hTB:=hTR.blk h0;clear hTR hto hsz hlt hp;refine ag (rm [0,3] K ?_);refine rj fun K=>K1 (j2 E0 hNX.ext hTB.ext hb100 (zHU) fun v18 w2 E0 hNX hTB N18 => ?_);have hlt:=hTB.lt;have hlt1:=hNX.lt;refine K1 (zX zAa fun fb w2 hb hE hBf hs => ?_);have hgf:w.heap.size≤fb:=by rw [hb];exact E0.size
     have hne1:tb≠fb:=by omega
     have hne2:b1≠fb:=by omega
     replace E0:=E0.trans hE;replace hTB:=hTB.ext hE;replace hNX:=hNX.ext hE;replace N18:=N18.ext hE;clear hE hb hs hlt hlt1;refine K1 (zM rfl N18 (Cell3.of hBf rfl) fun _ w9 hU hF => ?_);replace E0:=E0.upd hU hgf;replace hTB:=hTB.upd hU hBf hne1;replace hNX:=hNX.upd hU hBf hne2;clear hU hBf N18;refine rm [0,3,6] K ?_;refine zA (rJ fun K=>K1 (zH zAA rfl (mv (rm [0,3,6,20,21] K ?_))));refine zE (zZ (X:=Nat) (fun i ρ w'=>∃ L f r,Keep ρ [(0,.slice (some ⟨tb,0,none⟩) T.length tc),(3,.pointer (some ⟨b1,0,none⟩)),(6,.pointer (some ⟨fb,0,none⟩)),(20,.int .i64 (T.length:Nat)),(21,.int .i64 (i:Nat))]∧i≤T.length∧L.length=T.length∧Ext w w'∧PBlk w' tb L∧NumAt fb f w'∧NumAt b1 x w'∧denL x (L.drop i) f=some r∧L.take i++r=Rl) (fun i=>T.length-i) 0 ⟨T,1,Rl,(kp rfl),Nat.zero_le _,rfl,E0,hTB,hF,hNX,hden,rfl⟩ ?_);clear E0 hTB hF hNX hden;rintro i ρ1 w1 ⟨L,f,r,hk,hil,hLl,E0,hTB,hF,hNX,hden,hR⟩;refine wpe_k _ hk ?_;clear hk ρ1;refine rj fun K=>K8 rfl (rm [0,3,6,20,21,22] K ?_);refine zA ?_;refine K0 rfl ?_ ?_<;>intro hc
     · have hlt:i<T.length:=t_lt hc;clear hc;rw [zEI (by omega)] at hden;unfold denL at hden;obtain ⟨q,hq,hden⟩:=bind_some hden;obtain ⟨g,hg,hden⟩:=bind_some hden;obtain ⟨r2,hr2,hden⟩:=bind_some hden;obtain rfl:=Option.some.inj hden;clear hden;obtain ⟨hr1,hqe⟩:=zCo hq;obtain ⟨hr3,hge⟩:=zCP hg;clear hq hg;have hLR:=hTB.rd;have hL0:=hLl;refine sk (zA (zE (rJ fun K=>ag (rm [0,3,6,7,20,21] K ?_))))
       refine zBH 11 [([(0,none)],none),([(7,none)],none),([(0,none)],none),([(7,none)],none),([(26,some 1),(27,some 0)],none),([(28,some 0)],none),([(6,none)],none),([(29,some 1),(30,some 0)],none),([(6,none)],none),([(3,none)],none),([(32,some 1),(33,some 0)],none)] mixed (by kernel_rfl) (by kernel_rfl) (by kernel_rfl) (by kernel_rfl) (by kernel_rfl) fun K hK=>dvp (fun σ wx hE hk=>zD ⟨Ext.refl _,hk.1⟩) (dvp (fun σ wx hE hk=>zD ⟨Ext.refl _,hk.1⟩) (dvp (fun σ wx hE hk=>zD ⟨Ext.refl _,hk.1⟩) (dvp (fun σ wx hE hk=>zD ⟨Ext.refl _,hk.1⟩) (dcp (fun v _=>v = .pointer (some ⟨tb,3*i,none⟩)) (fun _ _ _ _ _ h=>h) (fun σ wx hE hk=>zBM hk.1 hk.2.1 hlt ⟨Ext.refl _,rfl⟩) (dcp (fun v w'=>IsNum w' v (L.getD i 0)) (fun _ _ _ _ hx h=>h.ext hx.toExt) (fun σ wx hE hk=>runs_pload (l:=L) (i:=i) (hLR.ext hE) (by omega) (hk.1.trans (by simp [zAY])) fun v h=>⟨Ext.refl _,h⟩) (dcp (fun v w'=>IsNum w' v f) (fun _ _ _ _ hx h=>h.ext hx.toExt) (fun σ wx hE hk=>zU hk.1 (hF.ext hE) fun v h=>⟨Ext.refl _,h⟩) ?_))))));refine dcp (fun v w'=>IsNum w' v q) (fun _ _ _ _ hx h=>h.ext hx.toExt) (fun σ wx hE hk=>zG hb69 (CallK.of_ret (zJb hk.1 hk.2.1 hr1) fun v w2 hX hr=>⟨hX,(by rw [hqe];exact hr)⟩) rfl) ?_
       refine dcp (fun v w'=>IsNum w' v f) (fun _ _ _ _ hx h=>h.ext hx.toExt) (fun σ wx hE hk=>zU hk.1 (hF.ext hE) fun v h=>⟨Ext.refl _,h⟩) (dcp (fun v w'=>IsNum w' v x) (fun _ _ _ _ hx h=>h.ext hx.toExt) (fun σ wx hE hk=>zU hk.1 (hNX.ext hE) fun v h=>⟨Ext.refl _,h⟩) ?_);refine dcp (fun v w'=>IsNum w' v g) (fun _ _ _ _ hx h=>h.ext hx.toExt) (fun σ wx hE hk=>zG hb101 (CallK.of_ret (zCm hk.1 hk.2.1 hr3) fun v w2 hX hr=>⟨hX,(by rw [hge];exact hr)⟩) rfl) ?_;refine zAe (hK _ fun wq hE => ?_);rintro _ rfl _ rfl _ rfl _ rfl v28 N28 v29 N29 v30 N30 v31 N31 v32 N32 v33 N33 v34 N34;refine zg ?_;replace E0:=E0.trans hE;replace hTB:=hTB.ext hE;replace hF:=hF.ext hE;replace hNX:=hNX.ext hE;clear hE;refine K1 (zBM (ix:=i) rfl rfl hlt (K1 (zAl (k:=i) rfl rfl N31 hTB (by omega) fun _ w9 hU hTB2 => ?_)));obtain ⟨tcs,hTc,-⟩:=hTB;replace E0:=E0.upd hU hgt;replace hF:=hF.upd hU hTc (Ne.symm hne1);replace hNX:=hNX.upd hU hTc hne0;replace N34:=N34.upd hU hTc (by decide);have hTB:=hTB2;clear hTB2 hTc hU tcs hLR;refine K1 (zM rfl N34 hF.cell fun _ w9 hU hF2 => ?_);obtain ⟨fcs,hFc,-⟩:=hF;replace E0:=E0.upd hU hgf;replace hTB:=hTB.upd hU hFc hne1;replace hNX:=hNX.upd hU hFc hne2;have hF:=hF2;clear hF2 hFc hU fcs N34 N31;have hL2:(L.set i q).length=T.length:=by rw [List.length_set];exact hLl
       have hden:denL x ((L.set i q).drop (i+1)) g=some r2:=by rw [List.drop_set_of_lt (by omega)];exact hr2
       replace hR:(L.set i q).take (i+1)++r2=Rl:=by
        rw [← hR,List.take_succ_eq_append_getElem (by rw [List.length_set];omega),List.getElem_set_self,List.take_set_of_le (Nat.le_refl _),List.append_assoc];rfl
       clear hr2 hLl hL0;refine zCH (zQ (zL (K5 [0,3,6,20,21] ?_)));exact K6 fun K=>K8 rfl (mv (rl K (zN (⟨rfl,i+1,⟨_,_,r2,⟨rfl,rfl,rfl,rfl,rfl,rfl,rfl,rfl,rfl,congrArg (Value.int .i64) (zr (by omega)),trivial⟩,by omega,hL2,E0,hTB,hF,hNX,hden,hR⟩,by omega⟩))))
     · have hge:=f_lt hc;obtain rfl:i=T.length:=by omega
       clear hc;rw [List.drop_eq_nil_of_le (by omega)] at hden;unfold denL at hden;obtain rfl:=Option.some.inj hden;clear hden;rw [List.append_nil,List.take_of_length_le (by omega)] at hR;subst hR;refine zS (zw (zh (zK (zL (rJ fun K=>ag (ag (rm [0,3,4,5,6,20,21] K ?_)))))));refine zC (zO ?_);exact ⟨rfl,_,zW rfl rfl rfl,E0,_,rfl,_,tc,(by rw [hLl];rfl),by rw [hLl];exact htc,hTB.rd,by rw [hLl];exact htl,fun _=>⟨tb,rfl,hgt⟩⟩
variable {T:TypeId} {b cu:Nat} {pu pv:Option Addr}
theorem info52':(prog.info? 52).map (fun i=>(i.zero,i.size))=some (some (S []),1):=by kernel_rfl
theorem IsVV.two {cv:Nat} {M K:List (List UInt8)} (hB:Blk w b T [.slice pu M.length cu,.slice pv K.length cv]) (h:IsVs w (.slice pu M.length cu) M) (h':IsVs w (.slice pv K.length cv) K):IsVV w (.slice (some ⟨b,0,none⟩) 2 2) [M,K]:=by
 refine ⟨_,2,rfl,Nat.le_refl _,fun i hi => ?_⟩
 match i,hi with
 | 0,_=>exact ⟨⟨b,0,none⟩,pu,cu,rfl,hB.lt,by rw [zAY,hB.cell];rfl,h⟩
 | 1,_=>exact ⟨⟨b,0,none⟩,pv,cv,rfl,hB.lt,by rw [zAY,hB.cell];rfl,h'⟩
end Go.Proofs.YtjiendlfobjanaaGreatDoor
namespace Go.Proofs.YtjiendlfobjanaaGreatDoor.R
open Go Go.RowKit Go.Proofs Tryz
set_option maxRecDepth 10000
set_option maxHeartbeats 2000000
attribute [local irreducible] Runs WPE CallK Ret
variable {A:List Rat} {K:Value→World→Prop} {af:Array Edge} {c m:Nat} {cs:List Value} {g:Option (Nat×Bool)} {pos:String} {q x:Rat} {r:Option Nat} {ty:TypeId} {u v:Value} {w w':World} {σ:Operand→Value}
theorem AccP.upd_below {sz:Nat} (h:AccP sz w v A) (hu:Upd c w w') (hc:Blk w c 50 cs) (hlt:c<sz):AccP sz w' v A :=
 h.fresh (hu.toS (S:=[c]) (by simp)) (noR1 hc (by decide)) (fun b hb=>by rw [List.mem_singleton.1 hb];exact hlt)
theorem zFH:x.num.sign≤0↔¬ 0<x:=zLi x
def powq (x:Rat):Nat→Rat
 | 0=>1
 | k+1=>powq x k*x
def scaledR (p:Poly) (x:Rat):Poly:=(List.range p.length).map fun i=>p.getD i 0*powq x i
theorem scaled_ok {p:List Rat} (hp:IsPoly w u p) (hx:IsR w v x) (hr:∀ i,i<p.length→Room (p.getD i 0) (powq x i)∧Room (powq x i) x):Ret prog 126 #[u,v] w (fun r w'=>IsPoly w' r (trim (scaledR p x))):=by
 obtain ⟨pp,pc,rfl,hpc,hP,hpl⟩:=hp;obtain ⟨xn,xd,hxv,hxn,hxd⟩:=id hx;subst hxv;have E0:Ext w w:=Ext.refl w;refine J0 29 func126 rfl (rj fun K => ?_);refine K1 (zo fun b1 w1 hb hE hB1 hs => ?_);have hgb1:w.heap.size≤b1:=by rw [hb];exact E0.size
 replace E0:=E0.trans hE;replace hx:=hx.ext hE;clear hE hs hb;refine ag (rm [0,3] K ?_);refine zA ?_;have hX:RAt b1 x _:=⟨_,hB1,rfl,hx⟩;have hbl:=hB1.lt;refine K6 fun K=>ag (rs [0,3,5] K ?_);refine rj fun K=>K1 (j1 E0 hX.ext hb125 (zFJ _) fun v8 w2 E0 hX N8 => ?_);refine K1 (zX zero50 fun bf w7 hb hE hBf hs => ?_);have hgf:w.heap.size≤bf:=by rw [hb];exact E0.size
 have hlf:b1<bf:=by have:=hX.lt;omega
 replace E0:=E0.trans hE;replace N8:=N8.ext hE;replace hX:=hX.ext hE;clear hE hb hs;refine K1 (runs_rstoreK rfl N8 (Cell3.of hBf rfl) fun _ w9 hU hF => ?_);replace E0:=E0.upd hU hgf;replace hX:=hX.upd hU hBf (by decide) (by omega);clear hU hBf N8;refine rm [0,3,5,6] K ?_;refine zA (rj fun K=>ag (rm [0,3,5,6,7] K ?_));refine zE (zZ (X:=Nat) (fun i ρ w'=>∃ vo,Keep ρ [(0,.slice pp p.length pc),(3,.pointer (some ⟨b1,0,none⟩)),(5,vo),(6,.pointer (some ⟨bf,0,none⟩)),(7,.int .i64 ((i:Nat):Int))]∧i≤p.length∧Ext w w'∧RAt b1 x w'∧RAt bf (powq x i) w'∧AccP (bf+1) w' vo ((List.range i).map fun i=>p.getD i 0*powq x i)) (fun i=>p.length-i) 0 ⟨_,(kp rfl),Nat.zero_le _,E0,hX,hF,AccP.nil⟩ ?_);clear E0 hX hF hbl;rintro i ρ1 w1 ⟨vo,hk,hil,E0,hX,hF,hA⟩;refine wpe_k _ hk ?_;clear hk ρ1;refine zA (rJ fun K=>mv (K1 (zH slice26 rfl (K8 rfl (rm [0,3,5,6,7,12] K ?_)))));refine K0 rfl ?_ ?_<;>intro hc
 · have hlt:i<p.length:=t_lt hc;clear hc;obtain ⟨hr1,hr2⟩:=hr i hlt
   refine sk (zA (zE (zA (zHh 8 [([(5,none)],none),([(0,none)],none),([(7,none)],none),([(16,some 1),(17,some 0)],none),([(18,some 0)],none),([(6,none)],none),([(19,some 1),(20,some 0)],none),([(21,some 0)],none)] mixed (by kernel_rfl) (by kernel_rfl) (by kernel_rfl) (by kernel_rfl) (by kernel_rfl) fun K hK=>dvp (fun σ wx hE hk=>zD ⟨Ext.refl _,hk.1⟩) (dvp (fun σ wx hE hk=>zD ⟨Ext.refl _,hk.1⟩) (dvp (fun σ wx hE hk=>zD ⟨Ext.refl _,hk.1⟩) (dcp (fun v _=>v = .pointer (pp.map fun a=>a.add (3*i))) (fun _ _ _ _ _ h=>h) (fun σ wx hE hk=>runs_pindex (ix:=i) (hP.ext (E0.trans hE)) hk.1 hk.2.1 hlt ⟨Ext.refl _,rfl⟩) (dcp (fun v w'=>IsR w' v (p.getD i 0)) (fun _ _ _ _ hx h=>h.ext hx.toExt) (fun σ wx hE hk=>runs_pload (l:=p) (i:=i) (hP.ext (E0.trans hE)) hlt hk.1 fun v h=>⟨Ext.refl _,h⟩) (dcp (fun v w'=>IsR w' v (powq x i)) (fun _ _ _ _ hx h=>h.ext hx.toExt) (fun σ wx hE hk=>runs_rAt hk.1 (hF.ext hE) fun v h=>⟨Ext.refl _,h⟩) (dcp (fun v w'=>IsR w' v (p.getD i 0*powq x i)) (fun _ _ _ _ hx h=>h.ext hx.toExt) (fun σ wx hE hk=>zG hb121 (CallK.of_ret (zCm hk.1 hk.2.1 hr1) fun v w2 hX hr=>⟨hX,hr⟩) rfl) (dcp (fun v w'=>OneR 0 (p.getD i 0*powq x i) v w') (fun _ _ _ _ hx h=>h.ext hx.toExt) (fun σ wx hE hk=>runs_one (sz:=0) hk.1 (Nat.zero_le _)) (zAe (hK _ fun wq hE => ?_)))))))))))));rintro _ rfl _ rfl _ rfl v18 N18 v19 N19 v20 N20 v21 N21 v22 N22
   refine zg ?_;replace E0:=E0.trans hE;replace hX:=hX.ext hE;replace hF:=hF.ext hE;replace hA:=hA.ext hE;clear hE;have hbl:=hF.lt;refine K1 (zEk rfl hA N22 (by simp;omega) hbl fun v' w9 hN hA => ?_);replace E0:=hN.ext _ (by omega) E0;replace hX:=hN.at_ _ _ (by omega) hX;replace hF:=hN.at_ _ _ (by omega) hF;clear hN hbl;refine ag (zCH (zL (K5 [0,3,5,6,7] ?_)));refine K6 fun K=>K1 (runs_rAt rfl hF fun v24 N24=>K1 (runs_rAt rfl hX fun v25 N25=>K1 (j3 E0 hX.ext hF.ext hA.ext hb121 (zCm N24 N25 hr2) fun v26 w2 E0 hX hF hA N26 => ?_)));clear N24 N25;refine K1 (runs_rstoreK rfl N26 hF.cell fun _ w9 hU hF2 => ?_);obtain ⟨fcs,hFc⟩:=hF.blk;replace E0:=E0.upd hU hgf;replace hX:=hX.upd hU hFc (by decide) (by omega);replace hA:=hA.upd_below hU hFc (by omega);have hF:RAt bf (powq x (i+1)) w9:=hF2;clear hF2 hFc hU fcs N26;refine rl K (zQ (zL (K5 [0,3,5,6,7] ?_)));refine rI fun K=>K8 rfl (ag (rl K (zN ?_)));exact ⟨rfl,i+1,⟨_,⟨rfl,rfl,rfl,rfl,rfl,rfl,rfl,rfl,rfl,congrArg (Value.int .i64) (zr (by omega)),trivial⟩,by omega,E0,hX,hF,by rw [List.range_succ,List.map_append];exact hA⟩,by omega⟩
 · have hge:=f_lt hc;obtain rfl:i=p.length:=by omega
   clear hc;refine zS (zw (zh (zK (zL (rJ fun K=>K1 (j0 E0 hb78 (zAk (hA.poly (by simpa using hpl))) fun v28 w2 E0 hrr=>ag (rm [0,3,4,6,7] K ?_)))))));exact zC (en rfl E0 hrr)
def denormR (p:Poly) (x:Rat):Poly×Int:=if 41<(trim p).length then ([],3) else if 0<x then (trim (scaledR p (1/x)),0) else ([],7)
theorem Denorm_ok {p:List Rat} (hp:IsPoly w u p) (hx:IsR w v x) (hr:0<x→Room 1 x∧∀ i,i<p.length→Room (p.getD i 0) (powq (1/x) i)∧Room (powq (1/x) i) (1/x)):Ret prog 49 #[u,v] w (fun r w'=>∃ t,r = .tuple #[t,.int .i64 (denormR p x).2]∧IsPoly w' t (denormR p x).1):=by
 obtain ⟨xn,xd,hxv,hxn,hxd⟩:=id hx;subst hxv;refine J0 16 func49 rfl (rj fun K => ?_);refine K1 (zo fun b1 w1 hb hE hB1 hs => ?_);have hgb1:w.heap.size≤b1:=by rw [hb];exact E0.size
 replace E0:=E0.trans hE;replace hx:=hx.ext hE;clear hE hs hb;refine ag (ag (rm [0,3] K ?_));refine zA (zA ?_);have hX:RAt b1 x _:=⟨_,hB1,rfl,hx⟩;refine rI fun K=>K1 (j3 E0 hX.ext hx.ext hB1.ext hb83 (zHl (hp.ext E0)) fun vi w2 E0 hX hx hB1 hr => ?_);subst hr;refine rs [0,3,7] K ?_;refine K0 rfl ?_ ?_<;>intro hc
 · have h41:41<(trim p).length:=of_decide_eq_true hc;clear hc;rw [show denormR p x=([],3) from by unfold denormR;rw [if_pos h41]];refine rj fun K=>ag (ag (rm [4,5] K ?_));exact zC (zR (zO ⟨rfl,_,zW rfl rfl rfl,E0,_,rfl,IsPoly.nil⟩))
 · have h41:¬ 41<(trim p).length:=of_decide_eq_false hc;clear hc;refine sk (zA (rj fun K=>K1 (runs_rAt rfl hX fun v8 N8=>K1 (j3 E0 hX.ext hx.ext hB1.ext hb120 (zAT N8) fun vi w2 E0 hX hx hB1 hr => ?_))));subst hr
   try clear N8
   refine K8 rfl (rm [0,3,10] K ?_);refine K0 rfl ?_ ?_<;>intro hc
   · have h0:¬ 0<x:=zFH.1 (of_decide_eq_true hc);clear hc;rw [show denormR p x=([],7) from by unfold denormR;rw [if_neg h41,if_neg h0]];refine rj fun K=>ag (ag (rm [4,5] K ?_));exact zC (zR (zO ⟨rfl,_,zW rfl rfl rfl,E0,_,rfl,IsPoly.nil⟩))
   · have h0:0<x:=Classical.byContradiction fun e=>of_decide_eq_false hc (zFH.2 e);clear hc;rw [show denormR p x=(trim (scaledR p (1/x)),0) from by unfold denormR;rw [if_neg h41,if_pos h0]];obtain ⟨hr1,hr2⟩:=hr h0
     refine sk (zA (zAK [([(0,none)],none),([],none),([(3,none)],none),([(12,some 1),(13,some 0)],none),([(11,some 3),(14,some 0)],none),([(15,some 0)],none),([],none)] mixed (by kernel_rfl) (by kernel_rfl) (by kernel_rfl) fun K hK=>dvp (fun σ wx hE hk=>zD ⟨Ext.refl _,hk.1⟩) (dcp (fun v w'=>IsR w' v (1)) (fun _ _ _ _ hx h=>h.ext hx.toExt) (fun σ wx hE hk=>zG hb125 (CallK.of_ret (zFJ _) fun v w2 hX hr=>⟨hX,hr⟩) rfl) (dcp (fun v w'=>IsR w' v (x)) (fun _ _ _ _ hx h=>h.ext hx.toExt) (fun σ wx hE hk=>runs_rAt hk.1 (hX.ext hE) fun v h=>⟨Ext.refl _,h⟩) (dcp (fun v w'=>IsR w' v (1/x)) (fun _ _ _ _ hx h=>h.ext hx.toExt) (fun σ wx hE hk=>zG hb111 (CallK.of_ret (zMR hk.1 hk.2.1 hr1) fun v w2 hX hr=>⟨hX,hr⟩) rfl) (dcp (fun v w'=>IsPoly w' v (trim (scaledR p (1/x)))) (fun _ _ _ _ hx h=>h.ext hx.toExt) (fun σ wx hE hk=>zG hb126 (CallK.of_ret (scaled_ok (IsPoly.of_eq hk.1 (hp.ext (E0.trans hE))) hk.2.1 hr2) fun v w2 hX hr=>⟨hX,hr⟩) rfl) (dcp (fun v w'=>IsPoly w' v (trim (scaledR p (1/x)))) (fun _ _ _ _ hx h=>h.ext hx.toExt) (fun σ wx hE hk=>zT ⟨Ext.refl _,hk.1⟩) (dvp (fun σ wx hE hk=>zT ⟨Ext.refl _,rfl⟩) (zAe (hK _ fun wq hE => ?_))))))))));rintro _ rfl v12 N12 v13 N13 v14 N14 v15 N15 v4 N4 _ rfl;refine zg ?_;replace E0:=E0.trans hE;replace hx:=hx.ext hE;replace hB1:=hB1.ext hE;clear hE;refine zL (K5 [4,5] ?_)
     exact zC (zO ⟨rfl,_,zW rfl rfl rfl,E0,_,rfl,N4⟩)
def highR (p:Poly):Poly×Int:=if 41<(trim p).length then ([],3) else if trim p=[] then ([],8) else (trim (trim p).reverse,0)
theorem drop_rev {T:Poly} (h:m<T.length):(T.drop m).reverse=(T.drop (m+1)).reverse++[T.getD m 0]:=by
 rw [List.drop_eq_getElem_cons h,List.reverse_cons,List.getD_eq_getElem?_getD,List.getElem?_eq_getElem h];rfl
theorem High_ok {p:List Rat} (hp:IsPoly w u p):Ret prog 50 #[u] w (fun r w'=>∃ t,r = .tuple #[t,.int .i64 (highR p).2]∧IsPoly w' t (highR p).1):=by
 have E0:Ext w w:=Ext.refl w;refine J0 29 func50 rfl (rj fun K=>ag (ag (rm [0] K ?_)));refine zA (rJ fun K=>K1 (j0 E0 hb83 (zHl hp) fun vi w2 E0 hr => ?_));subst hr;refine rm [0,7] K ?_;refine K0 rfl ?_ ?_<;>intro hc
 · have h41:41<(trim p).length:=of_decide_eq_true hc;clear hc;rw [show highR p=([],3) from by unfold highR;rw [if_pos h41]];refine rj fun K=>ag (ag (rm [0,2,3] K ?_));exact zC (zR (zO ⟨rfl,_,zW rfl rfl rfl,E0,_,rfl,IsPoly.nil⟩))
 · have h41:¬ 41<(trim p).length:=of_decide_eq_false hc;clear hc;refine sk (rJ fun K=>K1 (j0 E0 hb78 (zAk (hp.ext E0)) fun v9 w2 E0 hT => ?_));obtain ⟨tp,tc,rfl,htc,hT,htl⟩:=hT;refine ag (rm [0] K ?_);refine zA (rJ fun K=>K1 (zH slice26 rfl (K8 rfl (rm [0,12] K ?_))));refine K0 rfl ?_ ?_<;>intro hc
   · have h0:trim p=[]:=List.eq_nil_of_length_eq_zero (by have:=eq_of_beq hc;omega);clear hc;rw [show highR p=([],8) from by unfold highR;rw [if_neg h41,if_pos h0]];refine rj fun K=>ag (ag (rm [0,2,3] K ?_));exact zC (zR (zO ⟨rfl,_,zW rfl rfl rfl,E0,_,rfl,IsPoly.nil⟩))
   · have h0:trim p≠[]:=fun e=>by rw [e] at hc;cases hc
     clear hc;rw [show highR p=(trim (trim p).reverse,0) from by unfold highR;rw [if_neg h41,if_neg h0]];refine sk (rj fun K=>ag (rm [0,4] K ?_));refine zA (rJ fun K=>K1 (zH slice26 rfl (K8 rfl (ag (rm [0,4,5] K ?_)))));refine zE ?_;obtain ⟨wt,hwt,hTt⟩:∃ wt,wt=w2∧PRd wt tp (trim p):=⟨_,rfl,hT⟩;have Et:Ext wt w2:=hwt ▸ Ext.refl w2;refine zZ (X:=Nat) (fun k ρ w'=>∃ vo,Keep ρ [(0,.slice tp (trim p).length tc),(4,vo),(5,.int .i64 (((k:Nat):Int)-1))]∧k≤(trim p).length∧Ext w w'∧Ext wt w'∧AccP wt.heap.size w' vo (((trim p).drop k).reverse)) (fun k=>k) (trim p).length ⟨_,⟨rfl,rfl,rfl,rfl,rfl,congrArg (Value.int .i64) (zq (by omega) (by omega)),trivial⟩,Nat.le_refl _,E0,Et,by rw [List.drop_length];exact AccP.nil⟩ ?_;have hwt0:w.heap.size≤wt.heap.size:=by rw [hwt];exact E0.size
     clear E0 hT Et;rintro k ρ1 w1 ⟨vo,hk,hkl,E0,Et,hA⟩;have hT:=hTt.ext Et;refine wpe_k _ hk ?_;clear hk ρ1;refine zA (zA ?_);rcases k with _ | m
     · rw [List.drop_zero] at hA;refine rI fun K=>K8 rfl (rs [0,4,5,17] K ?_);refine wcf rfl (zS (zw (zh (zK (zL (rj fun K=>mv ?_))))));refine K1 (j0 E0 hb78 (zAk (hA.poly (by simp;omega))) fun v28 w2 E0 hrr => ?_);refine ag (ag (rm [0,2,3,5] K ?_));exact zC (zO ⟨rfl,_,zW rfl rfl rfl,E0,_,rfl,hrr⟩)
     · have hk0:decide ((((m+1:Nat):Int)-1)≥0)=true:=by simp only [decide_eq_true_eq];omega
       have hwk:IntKind.i64.wrap (((m+1:Nat):Int)-1-1)=((m:Nat):Int)-1:=by rw [zq (by omega) (by omega)];omega
       have hkn:(((m+1:Nat):Int)-1)=(m:Int):=by omega
       refine rI fun K=>K8 rfl (rs [0,4,5,17] K ?_);refine wct (congrArg Value.bool hk0) (sk (zA (zE (rI fun K=>mv (mv (K1 (runs_pindex (ix:=m) hT rfl (congrArg (Value.int .i64) hkn) (by omega) (K1 (runs_pload hT (i:=m) (by omega) rfl fun v24 N24=>K1 (zFr N24 fun v25 w4 hE N25 => ?_))))))))));replace E0:=E0.trans hE;replace Et:=Et.trans hE;replace hA:=hA.ext hE;clear hE N24 hT;refine K1 (zEk rfl hA N25 (by simp;omega) Et.size fun v' w9 hN hA => ?_);replace E0:=hN.ext _ hwt0 E0;replace Et:=hN.ext _ (Nat.le_refl _) Et;clear hN;refine ag (rl K (zQ (zL (K5 [0,4,5] ?_))));refine rI fun K=>K8 rfl (ag (rl K (zN ?_)));exact ⟨rfl,m,⟨_,⟨rfl,rfl,rfl,rfl,rfl,congrArg (Value.int .i64) hwk,trivial⟩,by omega,E0,Et,by rw [drop_rev (by omega)];exact hA⟩,by omega⟩
section laws
variable {d:Option Tmp}
theorem runs_three {x y z:Operand} {p s:Rat} (hx:IsR w (σ x) p) (hy:IsR w (σ y) q) (hz:IsR w (σ z) s) (hk:∀ v w',Ext w w'→IsPoly w' v [p,q,s]→K v w'):Runs prog r ⟨d,.buildSlice 26 3 #[(0,x),(1,y),(2,z)],ty,pos,af,g⟩ σ w K:=by
 have hx0:=hx;have hy0:=hy;have hz0:=hz;obtain ⟨n,dd,he,hn,hd⟩:=hx;obtain ⟨n2,dd2,he2,hn2,hd2⟩:=hy;obtain ⟨n3,dd3,he3,hn3,hd3⟩:=hz;rw [he] at hx0;rw [he2] at hy0;rw [he3] at hz0;refine zY (cs:=[.int .i64 p.num.sign,n,dd,.int .i64 q.num.sign,n2,dd2,.int .i64 s.num.sign,n3,dd3]) zCV info50' (by decide) (by decide) ?_ fun b w' hb hE hB hs'=>hk _ _ hE ⟨some ⟨b,0,none⟩,3,rfl,Nat.le_refl _,.inr ⟨b,0,_,rfl,hB,by simp,fun i hi => ?_⟩,by simp⟩
 · show Instr.fill _ _ [(0,σ x),(1,σ y),(2,σ z)]=_;rw [he,he2,he3]
   kernel_rfl
 · match i,hi with
   | 0,_=>exact hx0.ext hE
   | 1,_=>exact hy0.ext hE
   | 2,_=>exact hz0.ext hE
end laws
def bandX (b c:Rat) (n k:Nat):Poly:=trim (mulR (powR [c,0,1] k) (powR [0,b] (n-k)))
def bandT (T:Poly) (b c:Rat) (n k:Nat):Poly:=trim ((bandX b c n k).map (· * T.getD k 0))
def bandK (T:Poly) (b c:Rat) (n:Nat):Nat→Poly
 | 0=>[]
 | k+1=>trim (addR (bandK T b c n k) (bandT T b c n k))
def bandR (p:Poly) (b c:Rat):Poly×Int:=if 41<(trim p).length then ([],3) else if ¬ 0<b∨¬ 0<c then ([],7) else if trim p=[] then ([],8) else if 21<(trim p).length then ([],3) else (bandK (trim p) b c ((trim p).length-1) (trim p).length,0)
structure BandRoom (T:Poly) (b c:Rat) (n:Nat):Prop where
 p3:∀ j,j<n→MulRoom (powR [c,0,1] j) [c,0,1]
 p2:∀ j,j<n→MulRoom (powR [0,b] j) [0,b]
 mul:∀ k,k≤n→MulRoom (powR [c,0,1] k) (powR [0,b] (n-k))
 scale:∀ k,k≤n→∀ i,i<(bandX b c n k).length→Room ((bandX b c n k).getD i 0) (T.getD k 0)
 sum:∀ k,k≤n→∀ i,i<max (bandK T b c n k).length (bandT T b c n k).length→Room ((bandK T b c n k).getD i 0) ((bandT T b c n k).getD i 0)
theorem Band_ok {v1 v2:Value} {p:List Rat} {b c:Rat} (hp:IsPoly w u p) (hx:IsR w v1 b) (hy:IsR w v2 c) (hr:¬ (¬ 0<b∨¬ 0<c)→trim p≠[]→(trim p).length≤21→BandRoom (trim p) b c ((trim p).length-1)):Ret prog 52 #[u,v1,v2] w (fun r w'=>∃ t,r = .tuple #[t,.int .i64 (bandR p b c).2]∧IsPoly w' t (bandR p b c).1):=by
 obtain ⟨xn,xd,hxv,hxn,hxd⟩:=id hx;subst hxv;obtain ⟨yn,yd,hyv,hyn,hyd⟩:=id hy;subst hyv;have E0:Ext w w:=Ext.refl w;refine J0 59 func52 rfl (rj fun K => ?_);refine K1 (zo fun b1 w1 hb hE hB1 hs => ?_);have hgb1:w.heap.size≤b1:=by rw [hb];exact E0.size
 replace E0:=E0.trans hE;replace hx:=hx.ext hE;replace hy:=hy.ext hE;clear hE hs hb;refine K1 (zo fun b2 w2 hb hE hB2 hs => ?_);have hgb2:w.heap.size≤b2:=by rw [hb];exact E0.size
 have ne_b1_b2:b1≠b2:=by have:=hB1.lt;omega
 replace E0:=E0.trans hE;replace hx:=hx.ext hE;replace hy:=hy.ext hE;replace hB1:=hB1.ext hE;clear hE hs hb;refine ag (ag (rm [0,4,5] K ?_));refine zA (zA ?_);have hX:RAt b1 b _:=⟨_,hB1,rfl,hx⟩;have hY:RAt b2 c _:=⟨_,hB2,rfl,hy⟩;refine rI fun K=>K1 (j2 E0 hX.ext hY.ext hb83 (zHl (hp.ext E0)) fun vi w2 E0 hX hY hr => ?_);subst hr;refine rs [0,4,5,13] K ?_;refine K0 rfl ?_ ?_<;>intro hc
 · have h41:41<(trim p).length:=of_decide_eq_true hc;clear hc;rw [show bandR p b c=([],3) from by unfold bandR;rw [if_pos h41]];refine rj fun K=>ag (ag (rm [0,4,5,6,7] K ?_));exact zC (zR (zO ⟨rfl,_,zW rfl rfl rfl,E0,_,rfl,IsPoly.nil⟩))
 · have h41:¬ 41<(trim p).length:=of_decide_eq_false hc;clear hc;refine sk (zA (zA ?_));rcases (show ¬ 0<b∨(0<b∧¬ 0<c)∨(0<b∧0<c) from by by_cases a:0<b<;>by_cases a':0<c<;>simp [a,a']) with h1 | ⟨h1,h2⟩ | ⟨h1,h2⟩
   · rw [show bandR p b c=([],7) from by unfold bandR;rw [if_neg h41,if_pos (.inl h1)]];refine K6 fun K=>K1 (runs_rAt rfl hX fun v14 N14=>K1 (j2 E0 hX.ext hY.ext hb120 (zAT N14) fun vi w2 E0 hX hY hr => ?_));subst hr
     try clear N14
     refine K9 true rfl (decide_eq_true (zFH.2 h1)) (mv (K3 (K3 (K3 (pk rfl (rs [0,4,5,21] K ?_))))));refine wct rfl (rj fun K=>ag (ag (rm [0,4,5,6,7] K ?_)));exact zC (zR (zO ⟨rfl,_,zW rfl rfl rfl,E0,_,rfl,IsPoly.nil⟩))
   · rw [show bandR p b c=([],7) from by unfold bandR;rw [if_neg h41,if_pos (.inr h2)]];refine K6 fun K=>K1 (runs_rAt rfl hX fun v14 N14=>K1 (j2 E0 hX.ext hY.ext hb120 (zAT N14) fun vi w2 E0 hX hY hr => ?_));subst hr
     try clear N14
     refine K9 false rfl (decide_eq_false fun e=>zFH.1 e h1) (mv (K2 (runs_rAt rfl hY fun v18 N18=>K2 (j2 E0 hX.ext hY.ext hb120 (zAT N18) fun vi w2 E0 hX hY hr => ?_))));subst hr
     try clear N18
     refine K2 (zJ (v := .bool true) rfl rfl (congrArg (fun z=>some (Value.bool z)) (decide_eq_true (zFH.2 h2))) (pk rfl (rs [0,4,5,21] K ?_)));refine wct rfl (rj fun K=>ag (ag (rm [0,4,5,6,7] K ?_)));exact zC (zR (zO ⟨rfl,_,zW rfl rfl rfl,E0,_,rfl,IsPoly.nil⟩))
   · have hbc:¬ (¬ 0<b∨¬ 0<c):=fun e=>e.elim (fun e=>e h1) (fun e=>e h2);refine K6 fun K=>K1 (runs_rAt rfl hX fun v14 N14=>K1 (j2 E0 hX.ext hY.ext hb120 (zAT N14) fun vi w2 E0 hX hY hr => ?_));subst hr
     try clear N14
     refine K9 false rfl (decide_eq_false fun e=>zFH.1 e h1) (mv (K2 (runs_rAt rfl hY fun v18 N18=>K2 (j2 E0 hX.ext hY.ext hb120 (zAT N18) fun vi w2 E0 hX hY hr => ?_))));subst hr
     try clear N18
     refine K2 (zJ (v := .bool false) rfl rfl (congrArg (fun z=>some (Value.bool z)) (decide_eq_false fun e=>zFH.1 e h2)) (pk rfl (rs [0,4,5,21] K ?_)));refine wcf rfl (sk (rJ fun K=>K1 (j2 E0 hX.ext hY.ext hb78 (zAk (hp.ext E0)) fun v23 w2 E0 hX hY hT => ?_)));obtain ⟨tp,tc,rfl,htc,hT,htl⟩:=hT;refine ag (rm [0,4,5] K ?_);refine rJ fun K=>K1 (zH slice26 rfl (K8 rfl ?_));rw [show IntKind.i64.wrap (((trim p).length:Int)-1)=((trim p).length:Int)-1 from zq (by omega) (by omega)];refine ag (rm [0,4,5,8] K ?_);refine zA (rJ fun K=>K8 rfl (rm [0,4,5,8,28] K ?_));refine K0 rfl ?_ ?_<;>intro hc
     · have h0:trim p=[]:=List.eq_nil_of_length_eq_zero (by have:=of_decide_eq_true hc;omega);clear hc;rw [show bandR p b c=([],8) from by unfold bandR;rw [if_neg h41,if_neg hbc,if_pos h0]];refine rj fun K=>ag (ag (rm [0,4,5,6,7,8] K ?_));exact zC (zR (zO ⟨rfl,_,zW rfl rfl rfl,E0,_,rfl,IsPoly.nil⟩))
     · have hl1:1≤(trim p).length:=by have:=of_decide_eq_false hc;omega
       have h0:trim p≠[]:=fun e=>by rw [e] at hl1;simp at hl1
       clear hc;refine sk (zA (rJ fun K=>K8 rfl (rm [0,4,5,8,30] K ?_)));refine K0 rfl ?_ ?_<;>intro hc
       · have h21:21<(trim p).length:=by have:=of_decide_eq_true hc;omega
         clear hc;rw [show bandR p b c=([],3) from by unfold bandR;rw [if_neg h41,if_neg hbc,if_neg h0,if_pos h21]];refine rj fun K=>ag (ag (rm [0,4,5,6,7,8] K ?_));exact zC (zR (zO ⟨rfl,_,zW rfl rfl rfl,E0,_,rfl,IsPoly.nil⟩))
       · have h21:¬ 21<(trim p).length:=by have:=of_decide_eq_false hc;omega
         clear hc;rw [show bandR p b c=(bandK (trim p) b c ((trim p).length-1) (trim p).length,0) from by unfold bandR;rw [if_neg h41,if_neg hbc,if_neg h0,if_neg h21]];have hrm:=hr hbc h0 (by omega);generalize trim p=T at *;obtain ⟨n,hn⟩:∃ n,T.length=n+1:=⟨T.length-1,by omega⟩;rw [hn] at hrm htc h21 ⊢;rw [Nat.add_sub_cancel] at hrm ⊢;refine sk (rj fun K=>ag (rm [0,4,5,8,9] K ?_));refine zA (rj fun K=>ag (rm [0,4,5,8,9,10] K ?_));refine zE (zZ (X:=Nat) (fun k ρ w'=>∃ vo,Keep ρ [(0,.slice tp (n+1) tc),(4,.pointer (some ⟨b1,0,none⟩)),(5,.pointer (some ⟨b2,0,none⟩)),(8,.int .i64 ((n:Nat):Int)),(9,vo),(10,.int .i64 ((k:Nat):Int))]∧k≤n+1∧Ext w w'∧RAt b1 b w'∧RAt b2 c w'∧PRd w' tp T∧IsPoly w' vo (bandK T b c n k)) (fun k=>n+1-k) 0 ⟨_,⟨rfl,rfl,rfl,rfl,rfl,rfl,rfl,congrArg (Value.int .i64) (by omega),rfl,rfl,rfl,rfl,trivial⟩,Nat.zero_le _,E0,hX,hY,hT,IsPoly.nil⟩ ?_);clear E0 hX hY hT;rintro k ρ1 w1 ⟨vo,hk,hkl,E0,hX,hY,hT,hA⟩;refine wpe_k _ hk ?_;clear hk ρ1;refine zA (rJ fun K=>mv (K8 rfl (rm [0,4,5,8,9,10,33] K ?_)));refine K0 rfl ?_ ?_<;>intro hc
         · have hlt:k≤n:=by have:=of_decide_eq_true hc;omega
           clear hc;have hpl1:=powR_len [c,0,1] k;have hpl2:=powR_len [0,b] (n-k);simp only [List.length_cons,List.length_nil] at hpl1 hpl2;refine sk (zA (zE (zA (zAK [([(5,none)],none),([],none),([],none),([(36,some 2),(37,some 1),(38,some 0)],none),([(10,none)],none),([(39,some 1),(40,some 0)],none),([],none),([(4,none)],none),([(42,some 1),(43,some 0)],none),([(8,none)],none),([(10,none)],none),([(45,some 1),(46,some 0)],none),([(44,some 3),(47,some 0)],none),([(41,some 7),(48,some 0)],none),([(49,some 0)],none)] mixed (by kernel_rfl) (by kernel_rfl) (by kernel_rfl) fun K hK=>dcp (fun v w'=>IsR w' v (c)) (fun _ _ _ _ hx h=>h.ext hx.toExt) (fun σ wx hE hk=>runs_rAt hk.1 (hY.ext hE) fun v h=>⟨Ext.refl _,h⟩) (dcp (fun v w'=>IsR w' v (0)) (fun _ _ _ _ hx h=>h.ext hx.toExt) (fun σ wx hE hk=>zf (cs := #[.int .i64 0,.slice none 0 0,.slice none 0 0]) (by kernel_rfl) ⟨Ext.refl _,IsR.zero⟩) (dcp (fun v w'=>IsR w' v (1)) (fun _ _ _ _ hx h=>h.ext hx.toExt) (fun σ wx hE hk=>zG hb125 (CallK.of_ret (zFJ _) fun v w2 hX hr=>⟨hX,hr⟩) rfl) (dcp (fun v w'=>IsPoly w' v ([c,0,1])) (fun _ _ _ _ hx h=>h.ext hx.toExt) (fun σ wx hE hk=>runs_three hk.1 hk.2.1 hk.2.2.1 fun v w2 hX h=>⟨hX,h⟩) (dvp (fun σ wx hE hk=>zD ⟨Ext.refl _,hk.1⟩) ?_))))))))
           refine dcp (fun v w'=>IsPoly w' v (powR [c,0,1] k)) (fun _ _ _ _ hx h=>h.ext hx.toExt) (fun σ wx hE hk=>zG hb124 (CallK.eq2 rfl hk.2.1 (CallK.of_ret (zJW (n:=k) hk.1 (by omega) (by show k*3+3+1≤4096;omega) (fun j hj=>hrm.p3 j (by omega))) fun v w2 hX hr=>⟨hX,hr⟩)) rfl) ?_;refine dcp (fun v w'=>IsR w' v (0)) (fun _ _ _ _ hx h=>h.ext hx.toExt) (fun σ wx hE hk=>zf (cs := #[.int .i64 0,.slice none 0 0,.slice none 0 0]) (by kernel_rfl) ⟨Ext.refl _,IsR.zero⟩) (dcp (fun v w'=>IsR w' v (b)) (fun _ _ _ _ hx h=>h.ext hx.toExt) (fun σ wx hE hk=>runs_rAt hk.1 (hX.ext hE) fun v h=>⟨Ext.refl _,h⟩) (dcp (fun v w'=>IsPoly w' v ([0,b])) (fun _ _ _ _ hx h=>h.ext hx.toExt) (fun σ wx hE hk=>zLx hk.1 hk.2.1 fun v w2 hX h=>⟨hX,h⟩) (dvp (fun σ wx hE hk=>zD ⟨Ext.refl _,hk.1⟩) (dvp (fun σ wx hE hk=>zD ⟨Ext.refl _,hk.1⟩) (dvp (fun σ wx hE hk=>zAB (a:=n) (b:=k) (n-k) hk.1 hk.2.1 (by omega) (by omega) ⟨Ext.refl _,rfl⟩) ?_)))));refine dcp (fun v w'=>IsPoly w' v (powR [0,b] (n-k))) (fun _ _ _ _ hx h=>h.ext hx.toExt) (fun σ wx hE hk=>zG hb124 (CallK.eq2 rfl hk.2.1 (CallK.of_ret (zJW (n:=n-k) hk.1 (by omega) (by show (n-k)*2+2+1≤4096;omega) (fun j hj=>hrm.p2 j (by omega))) fun v w2 hX hr=>⟨hX,hr⟩)) rfl) ?_
           refine dcp (fun v w'=>IsPoly w' v (bandX b c n k)) (fun _ _ _ _ hx h=>h.ext hx.toExt) (fun σ wx hE hk=>zG hb128 (CallK.of_ret (zCp hk.1 hk.2.1 (by omega) (hrm.mul k hlt)) fun v w2 hX hr=>⟨hX,hr⟩) rfl) (dcp (fun v w'=>IsPoly w' v (bandX b c n k)) (fun _ _ _ _ hx h=>h.ext hx.toExt) (fun σ wx hE hk=>zT ⟨Ext.refl _,hk.1⟩) (zAe (hK _ fun wq hE => ?_)));rintro v36 N36 v37 N37 v38 N38 v39 N39 _ rfl v41 N41 v42 N42 v43 N43 v44 N44 _ rfl _ rfl _ rfl v48 N48 v49 N49 v11 N11;refine zg ?_;replace E0:=E0.trans hE;replace hX:=hX.ext hE;replace hY:=hY.ext hE;replace hT:=hT.ext hE;replace hA:=hA.ext hE;clear hE;refine zL (K5 [0,4,5,8,9,10,11] ?_);refine rI fun K=>mv (mv (mv ?_));refine K1 (runs_pindex (l:=T) (ix:=k) hT (by rw [hn];rfl) rfl (by omega) ?_);refine K1 (runs_pload hT (i:=k) (by omega) rfl fun v55 N55=>K1 (j4 E0 hX.ext hY.ext hT.ext hA.ext hb130 (zCw N11 N55 (hrm.scale k hlt)) fun v56 w2 E0 hX hY hT hA N56 => ?_))
           try clear N55
           refine K1 (j3 E0 hX.ext hY.ext hT.ext hb129 (zFL hA N56 (hrm.sum k hlt)) fun v57 w2 E0 hX hY hT N57 => ?_);replace hA:IsPoly _ v57 (bandK T b c n (k+1)):=N57;clear N56 N57;refine ag (rl K (zQ (zL (K5 [0,4,5,8,9,10] ?_))));exact rI fun K=>K8 rfl (ag (rl K (zN (⟨rfl,k+1,⟨_,⟨rfl,rfl,rfl,rfl,rfl,rfl,rfl,rfl,rfl,rfl,rfl,congrArg (Value.int .i64) (zr (by omega)),trivial⟩,by omega,E0,hX,hY,hT,hA⟩,by omega⟩))))
         · have hge:¬ k≤n:=fun e=>of_decide_eq_false hc (by omega);obtain rfl:k=n+1:=by omega
           clear hc;refine zS (zw (zh (zK (zL (rJ fun K=>ag (ag (rm [0,4,5,6,7,8,10] K ?_)))))));exact zC (zO ⟨rfl,_,zW rfl rfl rfl,E0,_,rfl,hA⟩)
end Go.Proofs.YtjiendlfobjanaaGreatDoor.R
namespace Go.Proofs.YtjiendlfobjanaaGreatDoor
open Go Go.RowKit Go.Proofs Tryz
set_option maxRecDepth 10000
set_option maxHeartbeats 2000000
attribute [local irreducible] Runs WPE CallK Ret
variable {K:Value→World→Prop} {P:Program} {a' b' u v:Value} {af:Array Edge} {f:FuncId} {g:Option (Nat×Bool)} {n:Nat} {p:Poly} {pos:String} {q x:Rat} {r:Option Nat} {ty:TypeId} {w:World} {σ:Operand→Value}
theorem CallK.eq4 {a b c c' d d':Value} (h:a=a') (h2:b=b') (h3:c=c') (h4:d=d') (hk:CallK P f #[a',b',c',d'] w K):CallK P f #[a,b,c,d] w K:=by rw [h,h2,h3,h4];exact hk
def zIP (T a b:Poly):Nat→Poly→Poly→Option Poly
 | 0,out,_=>some out
 | k+1,out,pw=>(pmul out a).bind fun o=>(if k<T.length then (zDG pw (T.getD k 0)).bind fun s=>padd o s else some o).bind fun o'=>(pmul pw b).bind fun pw'=>zIP T a b k o' pw'
def zJs (p a b:Poly) (n:Nat):Option Poly:=zIP (trim p) a b (n+1) [] [1]
section laws
variable {d:Option Tmp}
theorem zKQ {x:Operand} {p:Rat} (hx:IsNum w (σ x) p) (hk:∀ v w',Ext w w'→IsPoly w' v [p]→K v w'):Runs prog r ⟨d,.buildSlice 25 1 #[(0,x)],ty,pos,af,g⟩ σ w K:=by
 have hx0:=hx;obtain ⟨n,dd,he,hn,hd⟩:=hx;rw [he] at hx0;refine zY (cs:=[.bool (decide (p<0)),n,dd]) zAX info37' (by decide) (by decide) ?_ fun b w' hb hE hB hs'=>hk _ _ hE ⟨some ⟨b,0,none⟩,1,rfl,Nat.le_refl _,.inr ⟨b,0,_,rfl,hB,by simp,fun i hi => ?_⟩,by simp⟩
 · show Instr.fill _ _ [(0,σ x)]=_;rw [he]
   kernel_rfl
 · match i,hi with
   | 0,_=>exact hx0.ext hE
theorem zKN {x y:Operand} {p:Rat} (hx:IsNum w (σ x) p) (hy:IsNum w (σ y) q) (hk:∀ v w',Ext w w'→IsPoly w' v [p,q]→K v w'):Runs prog r ⟨d,.buildSlice 25 2 #[(0,x),(1,y)],ty,pos,af,g⟩ σ w K:=by
 have hx0:=hx;have hy0:=hy;obtain ⟨n,dd,he,hn,hd⟩:=hx;obtain ⟨n2,dd2,he2,hn2,hd2⟩:=hy;rw [he] at hx0;rw [he2] at hy0;refine zY (cs:=[.bool (decide (p<0)),n,dd,.bool (decide (q<0)),n2,dd2]) zAX info37' (by decide) (by decide) ?_ fun b w' hb hE hB hs'=>hk _ _ hE ⟨some ⟨b,0,none⟩,2,rfl,Nat.le_refl _,.inr ⟨b,0,_,rfl,hB,by simp,fun i hi => ?_⟩,by simp⟩
 · show Instr.fill _ _ [(0,σ x),(1,σ y)]=_;rw [he,he2]
   kernel_rfl
 · match i,hi with
   | 0,_=>exact hx0.ext hE
   | 1,_=>exact hy0.ext hE
theorem runs_three1 {x y z:Operand} {p s:Rat} (hx:IsNum w (σ x) p) (hy:IsNum w (σ y) q) (hz:IsNum w (σ z) s) (hk:∀ v w',Ext w w'→IsPoly w' v [p,q,s]→K v w'):Runs prog r ⟨d,.buildSlice 25 3 #[(0,x),(1,y),(2,z)],ty,pos,af,g⟩ σ w K:=by
 have hx0:=hx;have hy0:=hy;have hz0:=hz;obtain ⟨n,dd,he,hn,hd⟩:=hx;obtain ⟨n2,dd2,he2,hn2,hd2⟩:=hy;obtain ⟨n3,dd3,he3,hn3,hd3⟩:=hz;rw [he] at hx0;rw [he2] at hy0;rw [he3] at hz0;refine zY (cs:=[.bool (decide (p<0)),n,dd,.bool (decide (q<0)),n2,dd2,.bool (decide (s<0)),n3,dd3]) zAX info37' (by decide) (by decide) ?_ fun b w' hb hE hB hs'=>hk _ _ hE ⟨some ⟨b,0,none⟩,3,rfl,Nat.le_refl _,.inr ⟨b,0,_,rfl,hB,by simp,fun i hi => ?_⟩,by simp⟩
 · show Instr.fill _ _ [(0,σ x),(1,σ y),(2,σ z)]=_;rw [he,he2,he3]
   kernel_rfl
 · match i,hi with
   | 0,_=>exact hx0.ext hE
   | 1,_=>exact hy0.ext hE
   | 2,_=>exact hz0.ext hE
end laws
theorem mixed_ok {va vb:Value} {a b R:Poly} {m:Int} (hm:m=((n:Nat):Int)) (hp:IsPoly w v p) (ha:IsPoly w va a) (hb:IsPoly w vb b) (hn:n<1000000) (h:zJs p a b n=some R):Ret prog 127 #[v,va,vb,.int .i64 m] w (fun r w'=>IsPoly w' r R):=by
 subst hm;unfold zJs at h;have E0:Ext w w:=Ext.refl w;refine J0 40 func127 rfl (rj fun K=>ag (rm [0,1,2,3] K ?_));refine rJ fun K=>K1 (j0 E0 hb34 (zAk hp) fun v13 w2 E0 hT => ?_);obtain ⟨tp,tc,rfl,htc,hT,htl,-⟩:=hT;refine ag (rm [0,1,2,3] K ?_);refine rj fun K=>ag (rm [0,1,2,3,9] K ?_);refine rj fun K=>K1 (j1 E0 hT.ext hb100 (zHU) fun v14 w2 E0 hT N14=>K1 (zKQ N14 fun v15 w4 hE N15 => ?_));replace E0:=E0.trans hE;replace hT:=hT.ext hE;clear hE N14;refine ag (rm [0,1,2,3,9,10] K ?_);refine zA (rJ fun K=>ag (rm [0,1,2,9,10,11] K ?_));refine zE (zZ (X:=Nat) (fun k ρ w'=>∃ vo vw o pw,Keep ρ [(0,.slice tp (trim p).length tc),(1,va),(2,vb),(9,vo),(10,vw),(11,.int .i64 (((k:Nat):Int)-1))]∧k≤n+1∧Ext w w'∧PRd w' tp (trim p)∧IsPoly w' vo o∧IsPoly w' vw pw∧zIP (trim p) a b k o pw=some R) (fun k=>k) (n+1) ⟨_,_,_,_,⟨rfl,rfl,rfl,rfl,rfl,rfl,rfl,rfl,rfl,rfl,rfl,congrArg (Value.int .i64) (by omega),trivial⟩,Nat.le_refl _,E0,hT,IsPoly.nil,N15,h⟩ ?_);clear E0 hT N15 h;rintro k ρ1 w1 ⟨vo,vw,o,pw,hk,hkl,E0,hT,hO,hW,h⟩;refine wpe_k _ hk ?_;clear hk ρ1;refine zA (zA ?_);rcases k with _ | k
 · obtain rfl:=Option.some.inj h;refine rI fun K=>K8 rfl (rs [0,1,2,9,10,11,18] K ?_);refine wcf rfl (zS (zw (zh (zK (zL (rJ fun K=>ag (rm [0,8,11] K ?_)))))));exact zC (en rfl E0 hO)
 · have hk0:decide ((((k+1:Nat):Int)-1)≥0)=true:=by simp only [decide_eq_true_eq];omega
   have hwk:IntKind.i64.wrap (((k+1:Nat):Int)-1-1)=((k:Nat):Int)-1:=by rw [zq (by omega) (by omega)];omega
   have hkn:(((k+1:Nat):Int)-1)=(k:Int):=by omega
   unfold zIP at h;obtain ⟨o1,h1,h⟩:=bind_some h;obtain ⟨o2,h2,h⟩:=bind_some h;obtain ⟨pw2,h3,h⟩:=bind_some h;refine rI fun K=>K8 rfl (rs [0,1,2,9,10,11,18] K ?_);refine wct (congrArg Value.bool hk0) (sk (zA (zE (rJ fun K=>mv (K1 (j2 E0 hT.ext hW.ext hb71 (zCp hO (ha.ext E0) h1) fun v23 w2 E0 hT hW N23 => ?_))))));replace hO:=N23.poly
   try clear N23
   refine ag (rm [0,1,2,9,10,11] K ?_);refine zAu (fun ρ w'=>∃ vo,Keep ρ [(0,.slice tp (trim p).length tc),(1,va),(2,vb),(9,vo),(10,vw),(11,.int .i64 (((k+1:Nat):Int)-1))]∧Ext w w'∧PRd w' tp (trim p)∧IsPoly w' vo o2∧IsPoly w' vw pw) ?_ ?_
   · refine rJ fun K=>mv (K1 (zH zAA rfl (K8 rfl (rm [0,1,2,9,10,11,27] K ?_))));refine K0 rfl ?_ ?_<;>intro hc
     · have hlt:k<(trim p).length:=by have:=of_decide_eq_true hc;omega
       clear hc;rw [if_pos hlt] at h2;obtain ⟨s,hs1,hs2⟩:=bind_some h2;refine rI fun K=>mv (mv (mv (K1 (runs_pindex (ix:=k) hT rfl (congrArg (Value.int .i64) hkn) hlt (K1 (runs_pload hT (i:=k) hlt rfl fun v33 N33=>K1 (j3 E0 hT.ext hW.ext hO.ext hb56 (zCw hW N33 hs1) fun v34 w2 E0 hT hW hO N34 => ?_)))))))
       try clear N33
       refine K1 (j2 E0 hT.ext hW.ext hb149 (zFL hO N34.poly hs2) fun v35 w2 E0 hT hW N35 => ?_)
       try clear N34
       exact ag (rl K (zN ⟨rfl,_,(kp rfl),E0,hT,N35.poly,hW⟩))
     · have hge:¬ k<(trim p).length:=fun e=>of_decide_eq_false hc (by omega);clear hc;rw [if_neg hge] at h2;obtain rfl:=Option.some.inj h2;exact zn (zN ⟨rfl,_,(kp rfl),E0,hT,hO,hW⟩)
   · clear E0 hT hO hW;rintro ρ2 w2 ⟨vo,hk,E0,hT,hO,hW⟩;refine wpe_k _ hk ?_;clear hk ρ2;refine rI fun K=>mv (K1 (j2 E0 hT.ext hO.ext hb71 (zCp hW (hb.ext E0) h3) fun v38 w2 E0 hT hO N38 => ?_));replace hW:=N38.poly
     try clear N38
     refine ag (rl K (zQ (zL (K5 [0,1,2,9,10,11] ?_))));exact rI fun K=>K8 rfl (ag (rl K (zN (⟨rfl,k,⟨_,_,_,_,⟨rfl,rfl,rfl,rfl,rfl,rfl,rfl,rfl,rfl,rfl,rfl,congrArg (Value.int .i64) hwk,trivial⟩,by omega,E0,hT,hO,hW,h⟩,by omega⟩))))
def bandS (p:Poly) (b c:Rat):Option (Poly×Int):=if 41<(trim p).length then some ([],3) else if ¬ 0<b∨¬ 0<c then some ([],7) else if trim p=[] then some ([],8) else if 21<(trim p).length then some ([],3) else (zJs p [c,0,1] [0,b] ((trim p).length-1)).map fun l=>(l,0)
theorem above_two (b c:Rat):(!([b,c].any fun x=>decide (¬ 0<x)))=decide (0<b∧0<c):=by
 by_cases h1:0<b<;>by_cases h2:0<c<;>simp [h1,h2]
theorem Band_ok {v1 v2:Value} {b c:Rat} {R:Poly×Int} (hp:IsPoly w u p) (hx:IsNum w v1 b) (hy:IsNum w v2 c) (h:bandS p b c=some R):Ret prog 51 #[u,v1,v2] w (fun r w'=>∃ t,r = .tuple #[t,.int .i64 R.2]∧IsPoly w' t R.1):=by
 obtain ⟨xn,xd,hxv,hxn,hxd⟩:=id hx;subst hxv;obtain ⟨yn,yd,hyv,hyn,hyd⟩:=id hy;subst hyv;refine J0 36 func51 rfl (rj fun K => ?_);refine K1 (zo fun b1 w1 hb hE hB1 hs => ?_);have hgb1:w.heap.size≤b1:=by rw [hb];exact E0.size
 replace E0:=E0.trans hE;replace hx:=hx.ext hE;replace hy:=hy.ext hE;clear hE hs hb;refine K1 (zo fun b2 w2 hb hE hB2 hs => ?_);have hgb2:w.heap.size≤b2:=by rw [hb];exact E0.size
 have ne_b1_b2:b1≠b2:=by have:=hB1.lt;omega
 replace E0:=E0.trans hE;replace hx:=hx.ext hE;replace hy:=hy.ext hE;replace hB1:=hB1.ext hE;clear hE hs hb;refine ag (ag (rm [0,4,5] K ?_));refine zA ?_;have hX:NumAt b1 b _:=⟨_,hB1,rfl,hx⟩;have hY:NumAt b2 c _:=⟨_,hB2,rfl,hy⟩;refine rI fun K=>K1 (j6 E0 hX.ext hY.ext hx.ext hy.ext hB1.ext hB2.ext hb18 (zCs (hp.ext E0)) fun vi w2 E0 hX hY hx hy hB1 hB2 hr => ?_);subst hr;refine ag (rs [0,4,5,8] K ?_);refine zA (zE (rJ fun K=>K1 (j6 E0 hX.ext hY.ext hx.ext hy.ext hB1.ext hB2.ext hb79 (zFs (hp.ext E0)) fun vi w2 E0 hX hY hx hy hB1 hB2 hr => ?_)));subst hr;refine ag (rm [0,4,5,8,11] K ?_);refine K0 rfl ?_ ?_<;>intro hc
 · have h41:41<(trim p).length:=of_decide_eq_true hc;clear hc;rw [show bandS p b c=some ([],3) from by unfold bandS;rw [if_pos h41]] at h;obtain rfl:=Option.some.inj h;refine rj fun K=>ag (ag (rm [6,7] K ?_));exact zC (zV (zR (zO ⟨rfl,_,zW rfl rfl rfl,E0,_,rfl,IsPoly.nil⟩)))
 · have h41:¬ 41<(trim p).length:=of_decide_eq_false hc;clear hc;refine rj fun K=>K1 (zU rfl hX fun v15 N15=>K1 (zU rfl hY fun v16 N16=>K1 (zKN N15 N16 fun v17 w4 hE N17 => ?_)));replace E0:=E0.trans hE;replace hX:=hX.ext hE;replace hY:=hY.ext hE;replace hx:=hx.ext hE;replace hy:=hy.ext hE;replace hB1:=hB1.ext hE;replace hB2:=hB2.ext hE;clear hE N15 N16;refine K1 (j6 E0 hX.ext hY.ext hx.ext hy.ext hB1.ext hB2.ext hb99 (zIt N17) fun vi w2 E0 hX hY hx hy hB1 hB2 hr => ?_);subst hr;rw [above_two]
   try clear N17
   refine K1 (zl rfl (ag (rm [0,4,5,8,14] K ?_)));refine K0 rfl ?_ ?_<;>intro hc
   · have hbc:¬ 0<b∨¬ 0<c:=by
      by_cases e1:0<b
      · by_cases e2:0<c
        · simp [e1,e2] at hc
        · exact .inr e2
      · exact .inl e1
     clear hc;rw [show bandS p b c=some ([],7) from by unfold bandS;rw [if_neg h41,if_pos hbc]] at h;obtain rfl:=Option.some.inj h;refine rj fun K=>ag (ag (rm [6,7] K ?_));exact zC (zV (zR (zO ⟨rfl,_,zW rfl rfl rfl,E0,_,rfl,IsPoly.nil⟩)))
   · have hbc:¬ (¬ 0<b∨¬ 0<c):=by
      by_cases e1:0<b
      · by_cases e2:0<c
        · exact fun e=>e.elim (fun e=>e e1) (fun e=>e e2)
        · simp [e1,e2] at hc
      · simp [e1] at hc
     clear hc;refine rJ fun K=>K8 rfl (ag (rm [0,4,5,8,20] K ?_));refine K0 rfl ?_ ?_<;>intro hc
     · have h0:trim p=[]:=List.eq_nil_of_length_eq_zero (by have:=of_decide_eq_true hc;omega);clear hc;rw [show bandS p b c=some ([],8) from by unfold bandS;rw [if_neg h41,if_neg hbc,if_pos h0]] at h;obtain rfl:=Option.some.inj h;refine rj fun K=>ag (ag (rm [6,7] K ?_));exact zC (zV (zR (zO ⟨rfl,_,zW rfl rfl rfl,E0,_,rfl,IsPoly.nil⟩)))
     · have hl1:1≤(trim p).length:=by have:=of_decide_eq_false hc;omega
       have h0:trim p≠[]:=fun e=>by rw [e] at hl1;simp at hl1
       clear hc;refine rJ fun K=>K8 rfl (ag (rm [0,4,5,8,23] K ?_));refine K0 rfl ?_ ?_<;>intro hc
       · have h21:21<(trim p).length:=by have:=of_decide_eq_true hc;omega
         clear hc;rw [show bandS p b c=some ([],3) from by unfold bandS;rw [if_neg h41,if_neg hbc,if_neg h0,if_pos h21]] at h;obtain rfl:=Option.some.inj h;refine rj fun K=>ag (ag (rm [6,7] K ?_));exact zC (zV (zR (zO ⟨rfl,_,zW rfl rfl rfl,E0,_,rfl,IsPoly.nil⟩)))
       · have h21:¬ 21<(trim p).length:=by have:=of_decide_eq_false hc;omega
         clear hc;rw [show bandS p b c=(zJs p [c,0,1] [0,b] ((trim p).length-1)).map fun l=>(l,0) from by unfold bandS;rw [if_neg h41,if_neg hbc,if_neg h0,if_neg h21]] at h;obtain ⟨l,hl,rfl⟩:=map_some h;have hnn:((trim p).length:Int)-1=(((trim p).length-1:Nat):Int):=by omega
         refine zn (zQ (zL (zA (zAK [([(0,none)],none),([(5,none)],none),([],none),([],none),([(27,some 2),(28,some 1),(29,some 0)],none),([],none),([(4,none)],none),([(31,some 1),(32,some 0)],none),([(8,none)],none),([(26,some 8),(30,some 4),(33,some 1),(34,some 0)],none),([(35,some 0)],none),([],none)] mixed (by kernel_rfl) (by kernel_rfl) (by kernel_rfl) fun K hK=>dvp (fun σ wx hE hk=>zD ⟨Ext.refl _,hk.1⟩) (dcp (fun v w'=>IsNum w' v (c)) (fun _ _ _ _ hx h=>h.ext hx.toExt) (fun σ wx hE hk=>zU hk.1 (hY.ext hE) fun v h=>⟨Ext.refl _,h⟩) (dcp (fun v w'=>IsNum w' v (0)) (fun _ _ _ _ hx h=>h.ext hx.toExt) (fun σ wx hE hk=>zf (cs := #[.bool false,.slice none 0 0,.slice none 0 0]) (by kernel_rfl) ⟨Ext.refl _,IsNum.zero⟩) (dcp (fun v w'=>IsNum w' v (1)) (fun _ _ _ _ hx h=>h.ext hx.toExt) (fun σ wx hE hk=>zG hb100 (CallK.of_ret (zHU) fun v w2 hX hr=>⟨hX,hr⟩) rfl) (dcp (fun v w'=>IsPoly w' v ([c,0,1])) (fun _ _ _ _ hx h=>h.ext hx.toExt) (fun σ wx hE hk=>runs_three1 hk.1 hk.2.1 hk.2.2.1 fun v w2 hX h=>⟨hX,h⟩) (dcp (fun v w'=>IsNum w' v (0)) (fun _ _ _ _ hx h=>h.ext hx.toExt) (fun σ wx hE hk=>zf (cs := #[.bool false,.slice none 0 0,.slice none 0 0]) (by kernel_rfl) ⟨Ext.refl _,IsNum.zero⟩) (dcp (fun v w'=>IsNum w' v (b)) (fun _ _ _ _ hx h=>h.ext hx.toExt) (fun σ wx hE hk=>zU hk.1 (hX.ext hE) fun v h=>⟨Ext.refl _,h⟩) (dcp (fun v w'=>IsPoly w' v ([0,b])) (fun _ _ _ _ hx h=>h.ext hx.toExt) (fun σ wx hE hk=>zKN hk.1 hk.2.1 fun v w2 hX h=>⟨hX,h⟩) (dvp (fun σ wx hE hk=>zD ⟨Ext.refl _,hk.1⟩) (dcp (fun v w'=>IsPoly w' v (l)) (fun _ _ _ _ hx h=>h.ext hx.toExt) (fun σ wx hE hk=>zG hb127 (CallK.eq4 rfl rfl rfl hk.2.2.2.1 (CallK.of_ret (mixed_ok (n:=(trim p).length-1) hnn (IsPoly.of_eq hk.1 (hp.ext (E0.trans hE))) hk.2.1 hk.2.2.1 (by omega) hl) fun v w2 hX hr=>⟨hX,hr⟩)) rfl) ?_)))))))))))))
         refine dcp (fun v w'=>IsPoly w' v (l)) (fun _ _ _ _ hx h=>h.ext hx.toExt) (fun σ wx hE hk=>zT ⟨Ext.refl _,hk.1⟩) (dvp (fun σ wx hE hk=>zT ⟨Ext.refl _,rfl⟩) (zAe (hK _ fun wq hE => ?_)));rintro _ rfl v27 N27 v28 N28 v29 N29 v30 N30 v31 N31 v32 N32 v33 N33 _ rfl v35 N35 v6 N6 _ rfl;refine zg ?_;replace E0:=E0.trans hE;replace hx:=hx.ext hE;replace hy:=hy.ext hE;replace hB1:=hB1.ext hE;replace hB2:=hB2.ext hE;clear hE;refine zL (K5 [6,7] ?_);exact zC (zO ⟨rfl,_,zW rfl rfl rfl,E0,_,rfl,N6⟩)
theorem Same1_ok (hx:IsNum w u x) (hy:R.IsR w v x) (h1:Fine x.num.natAbs) (h2:Fine x.den) (hP:Pow10 w):Ret prog 31 #[u,v] w (fun r _=>r = .bool true):=by
 obtain ⟨xn,xd,hxv,hxn,hxd⟩:=id hx;subst hxv;obtain ⟨yn,yd,hyv,hyn,hyd⟩:=id hy;subst hyv;refine J0 10 func31 rfl (rj fun K => ?_);refine K1 (zo fun b1 w1 hb hE hB1 hs => ?_);have hgb1:w.heap.size≤b1:=by rw [hb];exact E0.size
 replace E0:=E0.trans hE;replace hx:=hx.ext hE;replace hy:=hy.ext hE;clear hE hs hb;refine K1 (zo fun b2 w2 hb hE hB2 hs => ?_);have hgb2:w.heap.size≤b2:=by rw [hb];exact E0.size
 have ne_b1_b2:b1≠b2:=by have:=hB1.lt;omega
 replace E0:=E0.trans hE;replace hx:=hx.ext hE;replace hy:=hy.ext hE;replace hB1:=hB1.ext hE;clear hE hs hb;refine ag (rm [2,3] K ?_);refine zA ?_;have hX:NumAt b1 x _:=⟨_,hB1,rfl,hx⟩;have hY:R.RAt b2 x _:=⟨_,hB2,rfl,hy⟩;refine zAK [([(2,none)],none),([(5,some 0)],none),([(3,none)],none),([(7,some 0)],none),([(6,some 2),(8,some 0)],none),([(9,some 0)],none)] mixed (by kernel_rfl) (by kernel_rfl) (by kernel_rfl) fun K hK=>dcp (fun v w'=>IsNum w' v (x)) (fun _ _ _ _ hx h=>h.ext hx.toExt) (fun σ wx hE hk=>zU hk.1 (hX.ext hE) fun v h=>⟨Ext.refl _,h⟩) (dcp (fun v _=>v=S (textS x)) (fun _ _ _ _ _ h=>h) (fun σ wx hE hk=>zG hb64 (CallK.of_ret (Text_all hk.1 h1 h2 ((hP.ext E0).ext hE)) fun v w2 hX hr=>⟨hX,hr⟩) rfl) (dcp (fun v w'=>R.IsR w' v x) (fun _ _ _ _ hx h=>h.ext hx.toExt) (fun σ wx hE hk=>R.runs_rAt hk.1 (hY.ext hE) fun v h=>⟨Ext.refl _,h⟩) (dcp (fun v _=>v=S (textS x)) (fun _ _ _ _ _ h=>h) (fun σ wx hE hk=>zG hb93 (CallK.of_ret (R.Text_ok hk.1 h1 h2) fun v w2 hX hr=>⟨hX,hr⟩) rfl) (dcp (fun v _=>v = .bool true) (fun _ _ _ _ _ h=>h) (fun σ wx hE hk=>zAQ hk.1 hk.2.1 ⟨Ext.refl _,congrArg Value.bool (beq_self_eq_true _)⟩) (dcp (fun v _=>v = .bool true) (fun _ _ _ _ _ h=>h) (fun σ wx hE hk=>zT ⟨Ext.refl _,hk.1⟩) (zAe (hK _ fun wq hE => ?_)))))));rintro v5 N5 v6 N6 v7 N7 v8 N8 v9 N9 v4 N4;refine zg ?_
 replace E0:=E0.trans hE;replace hx:=hx.ext hE;replace hy:=hy.ext hE;replace hB1:=hB1.ext hE;replace hB2:=hB2.ext hE;clear hE;refine zL (K5 [4] ?_);refine zC (zO ?_);subst N4;exact ⟨rfl,_,zi rfl rfl,E0,rfl⟩
theorem zGs (hp:IsPoly w u p) (hq:R.IsPoly w v p) (hf:∀ i,i<p.length→Fine (p.getD i 0).num.natAbs∧Fine (p.getD i 0).den) (hP:Pow10 w):Ret prog 26 #[u,v] w (fun r _=>r = .bool true):=by
 obtain ⟨pp,pc,rfl,hpc,hPP,hpl⟩:=hp;obtain ⟨qp,qc,rfl,hqc,hQP,hql⟩:=hq;have E0:Ext w w:=Ext.refl w;refine J0 27 func26 rfl (rj fun K=>ag (rm [0,1] K ?_));refine zA (rJ fun K=>K1 (zH zAA rfl (mv (K1 (zH R.slice26 rfl (K9 false rfl (by simp) (rm [0,1,10] K ?_)))))));refine wcf rfl (sk (zA (rj fun K=>ag (rm [0,1,5] K ?_))));refine zE (zZ (X:=Nat) (fun i ρ w'=>Keep ρ [(0,.slice pp p.length pc),(1,.slice qp p.length qc),(5,.int .i64 ((i:Nat):Int))]∧i≤p.length∧Ext w w') (fun i=>p.length-i) 0 ⟨(kp rfl),Nat.zero_le _,E0⟩ ?_);clear E0;rintro i ρ1 w1 ⟨hk,hil,E0⟩;refine wpe_k _ hk ?_;clear hk ρ1;refine zA (rJ fun K=>mv (K1 (zH zAA rfl (K8 rfl (rm [0,1,5,14] K ?_)))));refine K0 rfl ?_ ?_<;>intro hc
 · have hlt:i<p.length:=t_lt hc;clear hc;obtain ⟨h1,h2⟩:=hf i hlt
   refine sk (zA (zE (zA (zAK [([(0,none)],none),([(5,none)],none),([(17,some 1),(18,some 0)],none),([(19,some 0)],none),([(1,none)],none),([(5,none)],none),([(21,some 1),(22,some 0)],none),([(23,some 0)],none),([(20,some 4),(24,some 0)],none),([(25,some 0)],none)] mixed (by kernel_rfl) (by kernel_rfl) (by kernel_rfl) fun K hK=>dvp (fun σ wx hE hk=>zD ⟨Ext.refl _,hk.1⟩) (dvp (fun σ wx hE hk=>zD ⟨Ext.refl _,hk.1⟩) (dcp (fun v _=>v = .pointer (pp.map fun a=>a.add (3*i))) (fun _ _ _ _ _ h=>h) (fun σ wx hE hk=>runs_pindex (ix:=i) (hPP.ext (E0.trans hE)) hk.1 hk.2.1 hlt ⟨Ext.refl _,rfl⟩) (dcp (fun v w'=>IsNum w' v (p.getD i 0)) (fun _ _ _ _ hx h=>h.ext hx.toExt) (fun σ wx hE hk=>runs_pload (l:=p) (i:=i) (hPP.ext (E0.trans hE)) hlt hk.1 fun v h=>⟨Ext.refl _,h⟩) (dvp (fun σ wx hE hk=>zD ⟨Ext.refl _,hk.1⟩) (dvp (fun σ wx hE hk=>zD ⟨Ext.refl _,hk.1⟩) (dcp (fun v _=>v = .pointer (qp.map fun a=>a.add (3*i))) (fun _ _ _ _ _ h=>h) (fun σ wx hE hk=>R.runs_pindex (l:=p) (ix:=i) (hQP.ext (E0.trans hE)) hk.1 hk.2.1 hlt ⟨Ext.refl _,rfl⟩) (dcp (fun v w'=>R.IsR w' v (p.getD i 0)) (fun _ _ _ _ hx h=>h.ext hx.toExt) (fun σ wx hE hk=>R.runs_pload (l:=p) (i:=i) (hQP.ext (E0.trans hE)) hlt hk.1 fun v h=>⟨Ext.refl _,h⟩) (dcp (fun v _=>v = .bool true) (fun _ _ _ _ _ h=>h) (fun σ wx hE hk=>zG hb31 (CallK.of_ret (Same1_ok hk.1 hk.2.1 h1 h2 ((hP.ext E0).ext hE)) fun v w2 hX hr=>⟨hX,hr⟩) rfl) ?_))))))))))))
   refine dvp (fun σ wx hE hk=>zl hk.1 ⟨Ext.refl _,rfl⟩) (zAe (hK _ fun wq hE => ?_));rintro _ rfl _ rfl v19 N19 v20 N20 _ rfl _ rfl v23 N23 v24 N24 v25 N25 _ rfl;refine zg ?_;replace E0:=E0.trans hE;clear hE;refine zL (K5 [0,1,5,26] ?_);refine wcf (by subst N25;rfl) ?_;exact zn (zQ (zL (rI fun K=>K8 rfl (ag (rl K (zN (⟨rfl,i+1,⟨⟨rfl,rfl,rfl,rfl,rfl,congrArg (Value.int .i64) (zr (by omega)),trivial⟩,by omega,E0⟩,by omega⟩)))))))
 · clear hc;refine zS (zw (zh (zK (zL (rj fun K=>ag (rm [0,1,4,5] K ?_))))));exact zC (en rfl E0 rfl)
end Go.Proofs.YtjiendlfobjanaaGreatDoor
namespace Go.Proofs.YtjiendlfobjanaaGreatDoor
open Go Go.RowKit Go.Proofs Tryz
variable {D:Int} {a b i m:Nat} {p:Poly} {x y:Rat}
theorem zJx (h:R.Room x y):rroom x y=true:=decide_eq_true (by unfold R.Room at h;omega)
theorem zKF {p q:Poly} {i:Nat} (hi:i<p.length) (hr:R.MulRoom p q):∀ (n j:Nat) (O:Poly),q.length=j+n→O.length=p.length+q.length→(∀ k,k<p.length+q.length→O.getD k 0=R.partR p q i j k) →
 ∃ O',zIM (p.getD i 0) (q.drop j) (i+j) O=some O'∧O'.length=p.length+q.length∧∀ k,k<p.length+q.length→O'.getD k 0=R.rowsR p q (i+1) k
 | 0,j,O,hn,hO,h=>by
  refine ⟨O,?_,hO,fun k hk => ?_⟩
  · rw [List.drop_of_length_le (by omega)];rfl
  · rw [h k hk,show j=q.length by omega];exact R.part_end p q i k
 | n+1,j,O,hn,hO,h=>by
  obtain ⟨h1,h2⟩:=hr i j hi (by omega);rw [← h (i+j) (by omega)] at h2;obtain ⟨O',e1,e2,e3⟩:=zKF hi hr n (j+1) (O.set (i+j) (O.getD (i+j) 0+p.getD i 0*q.getD j 0)) (by omega) (by rw [List.length_set];exact hO) (R.part_step hO (by omega) h);refine ⟨O',?_,e2,e3⟩;rw [zEI (by omega),zIM,rmul,if_pos (zJx h1)];show ((radd _ _).bind _)=_;rw [radd,if_pos (zJx h2)];exact e1
theorem zKw {p q:Poly} (hr:R.MulRoom p q):∀ (n i:Nat) (O:Poly),p.length=i+n→O.length=p.length+q.length→(∀ k,k<p.length+q.length→O.getD k 0=R.rowsR p q i k) →
 ∃ O',mulL q (p.drop i) i O=some O'∧O'.length=p.length+q.length∧∀ k,k<p.length+q.length→O'.getD k 0=R.rowsR p q p.length k
 | 0,i,O,hn,hO,h=>by
  refine ⟨O,?_,hO,fun k hk => ?_⟩
  · rw [List.drop_of_length_le (by omega)];rfl
  · rw [h k hk,show i=p.length by omega]
 | n+1,i,O,hn,hO,h=>by
  rw [zEI (by omega),mulL];by_cases h0:p.getD i 0=0
  · rw [if_pos h0];exact zKw hr n (i+1) O (by omega) hO fun k hk=>by
     rw [h k hk,R.rowsR,h0];split
     · rw [Rat.zero_mul,Rat.add_zero]
     · rw [Rat.add_zero]
  · rw [if_neg h0];obtain ⟨O',e1,e2,e3⟩:=zKF (show i<p.length by omega) hr q.length 0 O (Nat.zero_add _).symm hO (fun k hk=>by rw [R.part_zero];exact h k hk);rw [List.drop_zero,Nat.add_zero] at e1;rw [e1];exact zKw hr n (i+1) O' (by omega) e2 e3
theorem zMm {q:Poly} (hl:p.length+q.length≤4096) (hr:R.MulRoom p q):pmul p q=some (trim (R.mulR p q)):=by
 obtain ⟨O,e1,e2,e3⟩:=zKw hr p.length 0 (List.replicate (p.length+q.length) 0) (by omega) (by simp) fun k hk=>by simp [R.rowsR,hk]
 rw [pmul,if_neg (by omega)];rw [List.drop_zero] at e1;rw [e1,R.mul_end e2 e3];rfl
theorem zKm {p q:Poly} {a b:Nat} {D E:Int} (hp:CHD a D p) (hq:CHD b E q) (k:Nat):∀ i,∃ z:Int,R.rowsR p q i k*((D*E:Int):Rat)=z∧4*z.natAbs≤i*2^(a+b)
 | 0=>⟨0,by rw [R.rowsR,Rat.zero_mul];rfl,by simp⟩
 | i+1=>by
  obtain ⟨z,h1,h2⟩:=zKm hp hq k i;rw [R.rowsR];split
  · obtain ⟨x,x1,x2⟩:=hp.2.2 i;obtain ⟨y,y1,y2⟩:=hq.2.2 (k-i);refine ⟨z+x*y,?_,?_⟩
    · rw [Rat.add_mul,h1,Rat.intCast_add,Rat.intCast_mul,Rat.intCast_mul,← x1,← y1];unfold co;grind
    · have:=zDt x2 y2;have h3:=Int.natAbs_add_le z (x*y);rw [Int.natAbs_mul] at h3;rw [Nat.add_mul];omega
  · refine ⟨z,by rw [Rat.add_zero];exact h1,?_⟩;rw [Nat.add_mul];omega
theorem part_ch {q:Poly} {E:Int} (hp:CHD a D p) (hq:CHD b E q) (i j k:Nat):∃ z:Int,R.partR p q i j k*((D*E:Int):Rat)=z∧4*z.natAbs≤(i+1)*2^(a+b):=by
 obtain ⟨z,h1,h2⟩:=zKm hp hq k i;unfold R.partR;split
 · obtain ⟨x,x1,x2⟩:=hp.2.2 i;obtain ⟨y,y1,y2⟩:=hq.2.2 (k-i);refine ⟨z+x*y,?_,?_⟩
   · rw [Rat.add_mul,h1,Rat.intCast_add,Rat.intCast_mul,Rat.intCast_mul,← x1,← y1];unfold co;grind
   · have:=zDt x2 y2;have h3:=Int.natAbs_add_le z (x*y);rw [Int.natAbs_mul] at h3;rw [Nat.add_mul];omega
 · refine ⟨z,by rw [Rat.add_zero];exact h1,?_⟩;rw [Nat.add_mul];omega
theorem zKn (p q:Poly) (k:Nat):co (trim (R.mulR p q)) k=if k<p.length+q.length then R.rowsR p q p.length k else 0:=by
 rw [zDa];unfold co R.mulR;by_cases hk:k<p.length+q.length
 · rw [if_pos hk];simp [hk]
 · rw [if_neg hk,List.getD_eq_getElem?_getD,List.getElem?_eq_none (by simp;omega)];rfl
theorem zND {z s:Nat} (h:4*z≤i*2^s) (hi:i≤2^m):2*z≤2^(s+m):=by
 have:i*2^s≤2^m*2^s:=Nat.mul_le_mul_right _ hi;rw [Nat.pow_add,Nat.mul_comm (2^s)];omega
theorem zJv {E:Int} (h1:2*D.natAbs≤2^a) (h2:2*E.natAbs≤2^b):2*(D*E).natAbs≤2^(a+b+m):=by
 have h3:=zDt h1 h2;rw [Int.natAbs_mul];have h4:=Nat.pow_le_pow_right (show 0<2 by decide) (show a+b≤a+b+m by omega);omega
theorem zGb {q:Poly} (ha:CH a p) (hb:CH b q) (hm:p.length≤2^m) (hM:a+b+m<200000000000):R.MulRoom p q∧CH (a+b+m) (trim (R.mulR p q)):=by
 obtain ⟨D,hp⟩:=ha;obtain ⟨E,hq⟩:=hb;have hDE:D*E≠0:=Int.mul_ne_zero hp.1 hq.1;refine ⟨fun i j hi hj => ?_,D*E,hDE,zJv hp.2.1 hq.2.1,fun k => ?_⟩
 · have h1:=hp.sz i;have h2:=hq.sz j;unfold co at h1 h2;refine ⟨by unfold R.Room;omega,?_⟩;obtain ⟨z,z1,z2⟩:=part_ch hp hq i j (i+j);have h3:=sz_of hDE z1 (zND z2 (by omega)) (zJv (m:=m) hp.2.1 hq.2.1);obtain ⟨x,x1,x2⟩:=hp.2.2 i;obtain ⟨y,y1,y2⟩:=hq.2.2 j;have h4:=zDt x2 y2
   have h5:=sz_of (x:=p.getD i 0*q.getD j 0) (z:=x*y) (a:=a+b+m) hDE (by rw [Rat.intCast_mul,Rat.intCast_mul,← x1,← y1];unfold co;grind)
    (by rw [Int.natAbs_mul];have:=Nat.pow_le_pow_right (show 0<2 by decide) (show a+b≤a+b+m by omega);omega) (zJv hp.2.1 hq.2.1)
   unfold R.Room;omega
 · rw [zKn];split
   · obtain ⟨z,z1,z2⟩:=zKm hp hq k p.length;exact ⟨z,z1,zND z2 hm⟩
   · exact ⟨0,by rw [Rat.zero_mul];rfl,by simp⟩
theorem zJN (p q:Poly) (k:Nat):co (trim (R.addR p q)) k=co p k+co q k:=by
 rw [zDa];by_cases hk:k<max p.length q.length
 · unfold co R.addR;simp [hk]
 · rw [co_ge (by simp [R.addR];omega),co_ge (by omega),co_ge (by omega),Rat.add_zero]
theorem zMO {q:Poly} (ha:CH a p) (hb:CH b q) (hM:a+b<200000000000):(∀ i,i<max p.length q.length→R.Room (p.getD i 0) (q.getD i 0))∧CH (a+b+1) (trim (R.addR p q))∧padd p q=some (trim (R.addR p q)):=by
 refine ⟨fun i _ => ?_,?_,?_⟩
 · have h1:=ha.sz i;have h2:=hb.sz i;unfold co at h1 h2;unfold R.Room;omega
 · obtain ⟨D,hp⟩:=ha;obtain ⟨E,hq⟩:=hb;refine ⟨D*E,Int.mul_ne_zero hp.1 hq.1,zJv hp.2.1 hq.2.1,fun k => ?_⟩;obtain ⟨x,x1,x2⟩:=hp.2.2 k;obtain ⟨y,y1,y2⟩:=hq.2.2 k;refine ⟨x*E+y*D,?_,?_⟩
   · rw [zJN,Rat.intCast_add,Rat.intCast_mul,Rat.intCast_mul,Rat.intCast_mul,← x1,← y1];grind
   · have h1:=zDt x2 hq.2.1;have h2:=zDt y2 hp.2.1;have h3:=Int.natAbs_add_le (x*E) (y*D);rw [Int.natAbs_mul,Int.natAbs_mul] at h3;rw [Nat.add_comm b a] at h2;rw [Nat.pow_succ];omega
 · obtain ⟨r,hr⟩:=padd_ex (p:=p) (q:=q) (u:=2*a) (v:=2*b) (by omega) ha.sz hb.sz;obtain ⟨h1,h2⟩:=padd_co hr;rw [hr,zFZ h1 (zBz _) fun k=>by rw [h2,zJN]]
theorem zGq (p:Poly) (x:Rat) (k:Nat):co (trim (p.map (· * x))) k=co p k*x:=by
 rw [zDa];unfold co;rw [List.getD_eq_getElem?_getD,List.getD_eq_getElem?_getD,List.getElem?_map];cases p[k]? with
 | none=>simp
 | some c=>rfl
theorem zIW {T:Poly} (ha:CH a p) (hb:CH b T) (hM:a+b<200000000000):(∀ i,i<p.length→R.Room (p.getD i 0) (T.getD m 0))∧CH (a+b) (trim (p.map (· * T.getD m 0)))∧zDG p (T.getD m 0)=some (trim (p.map (· * T.getD m 0))):=by
 refine ⟨fun i _ => ?_,?_,?_⟩
 · have h1:=ha.sz i;have h2:=hb.sz m;unfold co at h1 h2;unfold R.Room;omega
 · obtain ⟨D,hp⟩:=ha;obtain ⟨E,hq⟩:=hb;refine ⟨D*E,Int.mul_ne_zero hp.1 hq.1,zJv (m:=0) hp.2.1 hq.2.1,fun k => ?_⟩;obtain ⟨x,x1,x2⟩:=hp.2.2 k;obtain ⟨y,y1,y2⟩:=hq.2.2 m;refine ⟨x*y,?_,?_⟩
   · rw [zGq,Rat.intCast_mul,Rat.intCast_mul,← x1,← y1];unfold co;grind
   · have h1:=zDt x2 y2;rw [Int.natAbs_mul];omega
 · obtain ⟨r,hr⟩:=pscale_ex (p:=p) (x:=T.getD m 0) (fun k=>by have h1:=ha.sz k;have h2:=hb.sz m;unfold co at h2 ⊢;unfold co at h1;omega);obtain ⟨h1,h2⟩:=pscale_co hr;rw [hr,zFZ h1 (zBz _) fun k=>by rw [h2,zGq]]
theorem ch_one:CH 1 [1]:=⟨1,by decide,by decide,fun k=>by
 cases k with
 | zero=>exact ⟨1,by rw [zCS];exact Rat.one_mul _,by decide⟩
 | succ k=>exact ⟨0,by rw [zBB,zCu,Rat.zero_mul];rfl,by simp⟩⟩
theorem zGZ {p:Poly} {a:Nat} (hp:CH a p) (hl:p.length≤3) (ha:a<1000000):∀ n,n≤20→CH (1+n*(a+6)) (R.powR p n)∧∀ k,k<n→R.MulRoom (R.powR p k) p
 | 0,_=>⟨by rw [Nat.zero_mul];exact ch_one,fun k hk=>by omega⟩
 | n+1,hn=>by
  obtain ⟨h1,h2⟩:=zGZ hp hl ha n (by omega);have hlen:=R.powR_len p n;have hb:n*p.length≤19*3:=Nat.mul_le_mul (by omega) hl;have hs:n*(a+6)≤19*(a+6):=Nat.mul_le_mul_right _ (by omega);obtain ⟨h3,h4⟩:=zGb (m:=6) h1 hp (by show _≤64;omega) (by omega);refine ⟨h4.le (by rw [Nat.add_mul];omega),fun k hk => ?_⟩;rcases Nat.lt_succ_iff_lt_or_eq.1 hk with e | e
  · exact h2 k e
  · rw [e];exact h3
theorem zMz (h:sz x<1000000000):Fine x.num.natAbs∧Fine x.den:=by
 unfold sz at h;unfold Fine;omega
theorem zNG (p:Poly) (c:Rat) (k:Nat):∀ n,R.rowsR p [c,0,1] n k=(if k<n then co p k*c else 0)+(if 2≤k∧k<n+2 then co p (k-2) else 0)
 | 0=>by rw [R.rowsR,if_neg (show ¬ k<0 by omega),if_neg (show ¬ (2≤k∧k<0+2) by omega),Rat.add_zero]
 | n+1=>by
  rw [R.rowsR,zNG p c k n];rcases (show k<n∨k=n∨k=n+1∨k=n+2∨n+2<k by omega) with h | rfl | rfl | rfl | h
  · rw [if_neg (show ¬ n≤k by omega),if_pos h,if_pos (show k<n+1 by omega),Rat.add_zero];congr 1;by_cases h2:2≤k
    · rw [if_pos (show 2≤k∧k<n+2 by omega),if_pos (show 2≤k∧k<n+1+2 by omega)]
    · rw [if_neg (show ¬ (2≤k∧k<n+2) by omega),if_neg (show ¬ (2≤k∧k<n+1+2) by omega)]
  · rw [if_pos (Nat.le_refl k),if_neg (Nat.lt_irrefl k),if_pos (Nat.lt_succ_self k),Nat.sub_self,Rat.zero_add,Rat.add_comm];show co p k*c+_=_;congr 1;by_cases h2:2≤k
    · rw [if_pos (show 2≤k∧k<k+2 by omega),if_pos (show 2≤k∧k<k+1+2 by omega)]
    · rw [if_neg (show ¬ (2≤k∧k<k+2) by omega),if_neg (show ¬ (2≤k∧k<k+1+2) by omega)]
  · rw [if_pos (show n≤n+1 by omega),if_neg (show ¬ n+1<n by omega),if_neg (show ¬ n+1<n+1 by omega),show n+1-n=1 by omega];show _+_+p.getD n 0*0=_;rw [Rat.mul_zero,Rat.add_zero];congr 1;by_cases h2:2≤n+1
    · rw [if_pos (show 2≤n+1∧n+1<n+2 by omega),if_pos (show 2≤n+1∧n+1<n+1+2 by omega)]
    · rw [if_neg (show ¬ (2≤n+1∧n+1<n+2) by omega),if_neg (show ¬ (2≤n+1∧n+1<n+1+2) by omega)]
  · rw [if_pos (show n≤n+2 by omega),if_neg (show ¬ n+2<n by omega),if_neg (show ¬ (2≤n+2∧n+2<n+2) by omega),if_neg (show ¬ n+2<n+1 by omega),if_pos (show 2≤n+2∧n+2<n+1+2 by omega),show n+2-n=2 by omega,show n+2-2=n by omega];show _+_+p.getD n 0*1=0+p.getD n 0;rw [Rat.mul_one,Rat.add_zero]
  · rw [if_pos (show n≤k by omega),if_neg (show ¬ k<n by omega),if_neg (show ¬ (2≤k∧k<n+2) by omega),if_neg (show ¬ k<n+1 by omega),if_neg (show ¬ (2≤k∧k<n+1+2) by omega)];rw [show ([c,0,1]:Poly).getD (k-n) 0=0 by rw [List.getD_eq_getElem?_getD,List.getElem?_eq_none (by simp;omega)];rfl,Rat.mul_zero,Rat.add_zero]
theorem zLX (p:Poly) (c:Rat) (k:Nat):co (trim (R.mulR p [c,0,1])) k=co p k*c+(if 2≤k then co p (k-2) else 0):=by
 rw [zKn,zNG];have h3:([c,0,1]:Poly).length=3:=rfl;rw [h3];by_cases h:k<p.length
 · rw [if_pos (show k<p.length+3 by omega),if_pos h];congr 1;by_cases h2:2≤k
   · rw [if_pos (show 2≤k∧k<p.length+2 by omega),if_pos h2]
   · rw [if_neg (show ¬ (2≤k∧k<p.length+2) by omega),if_neg h2]
 · rw [show co p k=0 from co_ge (by omega),Rat.zero_mul,if_neg h];by_cases h2:k<p.length+2
   · rw [if_pos (show k<p.length+3 by omega)];congr 1;by_cases h4:2≤k
     · rw [if_pos (show 2≤k∧k<p.length+2 by omega),if_pos h4]
     · rw [if_neg (show ¬ (2≤k∧k<p.length+2) by omega),if_neg h4]
   · rw [if_neg (show ¬ (2≤k∧k<p.length+2) by omega),show co p (k-2)=0 from co_ge (by omega)];simp only [Rat.add_zero,ite_self]
theorem zNO (p q:Poly) (m:Nat) (β:Rat) (hq:∀ j,co q j=if j=m then β else 0) (k:Nat):∀ n,R.rowsR p q n k=if m≤k∧k-m<n then co p (k-m)*β else 0
 | 0=>by rw [R.rowsR,if_neg (show ¬ (m≤k∧k-m<0) by omega)]
 | n+1=>by
  rw [R.rowsR,zNO p q m β hq k n];have hq':q.getD (k-n) 0=if k-n=m then β else 0:=hq (k-n)
  rw [hq'];by_cases h1:m≤k∧k-m<n
  · rw [if_pos h1,if_pos (show m≤k∧k-m<n+1 by omega)];by_cases h2:n≤k
    · rw [if_pos h2,if_neg (show ¬ k-n=m by omega),Rat.mul_zero,Rat.add_zero]
    · rw [if_neg h2,Rat.add_zero]
  · rw [if_neg h1,Rat.zero_add];by_cases h2:n≤k
    · rw [if_pos h2];by_cases h3:k-n=m
      · rw [if_pos h3,if_pos (show m≤k∧k-m<n+1 by omega),show k-m=n by omega];rfl
      · rw [if_neg h3,Rat.mul_zero,if_neg (show ¬ (m≤k∧k-m<n+1) by omega)]
    · rw [if_neg h2,if_neg (show ¬ (m≤k∧k-m<n+1) by omega)]
theorem zLF (p q:Poly) (m:Nat) (β:Rat) (hq:∀ j,co q j=if j=m then β else 0) (k:Nat):co (trim (R.mulR p q)) k=if m≤k then co p (k-m)*β else 0:=by
 rw [zKn,zNO p q m β hq];by_cases hβ:β=0
 · rw [hβ];simp
 · have hl:m<q.length:=by
    rcases Nat.lt_or_ge m q.length with h | h
    · exact h
    · have:=hq m;rw [co_ge h,if_pos rfl] at this;exact absurd this.symm hβ
   by_cases h1:m≤k
   · rw [if_pos (show m≤k from h1)];by_cases h2:k-m<p.length
     · rw [if_pos (show k<p.length+q.length by omega),if_pos (show m≤k∧k-m<p.length from ⟨h1,h2⟩)]
     · rw [show co p (k-m)=0 from co_ge (by omega),Rat.zero_mul];simp
   · rw [if_neg (show ¬ m≤k from h1),if_neg (show ¬ (m≤k∧k-m<p.length) from fun e=>h1 e.1)];simp
theorem zJZ (b:Rat):∀ (m j:Nat),co (R.powR [0,b] m) j=if j=m then b^m else 0
 | 0,j=>by
  rw [R.powR,Rat.pow_zero];cases j with
  | zero=>rw [if_pos rfl];rfl
  | succ j=>rw [if_neg (by omega),zBB,zCu]
 | m+1,j=>by
  rw [R.powR,zLF _ [0,b] 1 b (fun j=>by
   match j with
   | 0=>rfl
   | 1=>rfl
   | j+2=>rw [if_neg (by omega),zBB,zBB,zCu])]
  by_cases h:1≤j
  · rw [if_pos h,zJZ b m];by_cases h2:j=m+1
    · rw [if_pos (show j-1=m by omega),if_pos h2,Rat.pow_succ]
    · rw [if_neg (show ¬ j-1=m by omega),if_neg h2,Rat.zero_mul]
  · rw [if_neg h,if_neg (show ¬ j=m+1 by omega)]
def bterm (T:Poly) (b c:Rat) (n m e j:Nat):Rat:=if n-m≤j then co (R.powR [c,0,1] e) (j-(n-m))*b^(n-m)*co T m else 0
def gsum (T:Poly) (b c:Rat) (n j:Nat):Nat→Nat→Nat→Rat
 | 0,_,_=>0
 | i+1,m,e=>bterm T b c n m e j+gsum T b c n j i (m+1) (e+1)
theorem bterm_shift (T:Poly) (b c:Rat) (n m e j:Nat):bterm T b c n m (e+1) j=bterm T b c n m e j*c+(if 2≤j then bterm T b c n m e (j-2) else 0):=by
 unfold bterm;rw [R.powR];by_cases h:n-m≤j
 · rw [if_pos h,if_pos h,zLX];by_cases h2:2≤j-(n-m)
   · rw [if_pos h2,if_pos (show 2≤j by omega),if_pos (show n-m≤j-2 by omega),show j-(n-m)-2=j-2-(n-m) by omega];grind
   · rw [if_neg h2];by_cases h3:2≤j
     · rw [if_pos h3,if_neg (by omega)];grind
     · rw [if_neg h3];grind
 · rw [if_neg h,if_neg h,Rat.zero_mul];by_cases h3:2≤j
   · rw [if_pos h3,if_neg (by omega),Rat.add_zero]
   · rw [if_neg h3,Rat.add_zero]
theorem zIQ (T:Poly) (b c:Rat) (n j:Nat):∀ i m e,gsum T b c n j i m (e+1)=gsum T b c n j i m e*c+(if 2≤j then gsum T b c n (j-2) i m e else 0)
 | 0,m,e=>by simp only [gsum];split<;>grind
 | i+1,m,e=>by
  rw [gsum,zIQ T b c n j i (m+1) (e+1),bterm_shift,gsum];by_cases h:2≤j
  · rw [if_pos h,if_pos h,if_pos h,gsum];grind
  · rw [if_neg h,if_neg h,if_neg h];grind
theorem co_bandT (T:Poly) (b c:Rat) (n k j:Nat):co (R.bandT T b c n k) j=bterm T b c n k k j:=by
 unfold R.bandT R.bandX bterm;rw [zGq,zLF _ _ (n-k) (b^(n-k)) (zJZ b (n-k))];split
 · rfl
 · rw [Rat.zero_mul]
theorem zJj (T:Poly) (b c:Rat) (n j:Nat):∀ i m,co (R.bandK T b c n m) j+gsum T b c n j i m m=co (R.bandK T b c n (m+i)) j
 | 0,m=>by rw [gsum,Rat.add_zero];rfl
 | i+1,m=>by
  rw [gsum,← Rat.add_assoc,← co_bandT,← zJN,show m+(i+1)=m+1+i by omega];exact zJj T b c n j i (m+1)
theorem mulR_len {q:Poly}:(trim (R.mulR p q)).length≤p.length+q.length:=Nat.le_trans (zAz _) (by simp [R.mulR])
theorem addR_len {q:Poly}:(trim (R.addR p q)).length≤max p.length q.length:=Nat.le_trans (zAz _) (by simp [R.addR])
theorem map_len:(trim (p.map (· * x))).length≤p.length:=Nat.le_trans (zAz _) (by simp)
set_option maxRecDepth 10000 in
theorem zHu {T:Poly} {b c:Rat} {n A B:Nat} (hT:CH A T) (hc:CH B [c,0,1]) (hb:CH B [0,b]) (hn:T.length=n+1) (hn20:n≤20) (hA:A<100000) (hB:B<100000) :
 ∀ (k i:Nat) (O:Poly),k+i=n+1→Trimd O→O.length≤3*i+50→CH (1+i*(A+21*B+300)) O→(∀ j,co O j=gsum T b c n j i k 0) →
  ∃ l,zIP T [c,0,1] [0,b] k O (R.powR [0,b] i)=some l∧Trimd l∧CH (1+(n+1)*(A+21*B+300)) l∧∀ j,co l j=gsum T b c n j (n+1) 0 0
 | 0,i,O,hk,h0,hl,hO,hj=>by
  obtain rfl:i=n+1:=by omega
  exact ⟨O,rfl,h0,hO,hj⟩
 | k+1,i,O,hk,h0,hl,hO,hj=>by
  have hi:i≤20:=by omega
  have hs:i*(A+21*B+300)≤20*(A+21*B+300):=Nat.mul_le_mul_right _ hi;obtain ⟨p1,p2⟩:=zGZ hb (Nat.le_of_ble_eq_true rfl) (by omega) i hi;have hs2:i*(B+6)≤20*(B+6):=Nat.mul_le_mul_right _ hi;have hpl:=R.powR_len [0,b] i;rw [show ([0,b]:Poly).length=2 from rfl] at hpl;obtain ⟨m1,m2⟩:=zGb (m:=7) hO hc (by show _≤128;omega) (by omega);have e1:=zMm (by rw [show ([c,0,1]:Poly).length=3 from rfl];omega) m1;obtain ⟨-,s1,s2⟩:=zIW (m:=k) p1 hT (by omega);obtain ⟨-,a1,a2⟩:=zMO m2 s1 (by omega);obtain ⟨w1,w2⟩:=zGb (m:=7) p1 hb (by show _≤128;omega) (by omega);have e2:=zMm (by rw [show ([0,b]:Poly).length=2 from rfl];omega) w1;obtain ⟨l,l1,l2⟩:=zHu hT hc hb hn hn20 hA hB k (i+1) _ (by omega) (zBz _) (by
   have h1:=addR_len (p:=trim (R.mulR O [c,0,1])) (q:=trim ((R.powR [0,b] i).map (· * T.getD k 0)))
   have h2:=mulR_len (p:=O) (q:=[c,0,1]);have h3:=map_len (p:=R.powR [0,b] i) (x:=T.getD k 0);rw [show ([c,0,1]:Poly).length=3 from rfl] at h2;omega) (a1.le (by rw [Nat.add_mul];omega)) (fun j=>by
   rw [zJN,zLX,zGq,zJZ,hj,gsum];rw [zIQ T b c n j i (k+1) 0,Rat.add_comm];congr 1
   · unfold bterm;rw [R.powR,show n-k=i by omega];by_cases e:j=i
     · rw [if_pos e,if_pos (by omega),show j-i=0 by omega,zCS,Rat.one_mul];rfl
     · rw [if_neg e,Rat.zero_mul];by_cases e2:i≤j
       · rw [if_pos e2,show j-i=j-i-1+1 by omega,zBB,zCu,Rat.zero_mul,Rat.zero_mul]
       · rw [if_neg e2]
   · congr 1;by_cases e:2≤j
     · rw [if_pos e,if_pos e,hj]
     · rw [if_neg e,if_neg e])
  refine ⟨l,?_,l2⟩;rw [zIP,e1];show ((if k<T.length then (zDG (R.powR [0,b] i) (T.getD k 0)).bind fun s=>padd _ s else _).bind _)=_;rw [if_pos (by omega),s2];show ((padd _ _).bind _)=_;rw [a2];show ((pmul _ _).bind _)=_;rw [e2];exact l1
theorem zLN {T:Poly} {b c:Rat} {n A B:Nat} (hT:CH A T) (hc:CH B [c,0,1]) (hb:CH B [0,b]) (hn20:n≤20) (hA:A<100000) (hB:B<100000) :
 ∀ k,k≤n+1→CH (1+k*(A+21*B+300)) (R.bandK T b c n k)∧∀ m,m<k→R.MulRoom (R.powR [c,0,1] m) (R.powR [0,b] (n-m))∧(∀ i,i<(R.bandX b c n m).length→R.Room ((R.bandX b c n m).getD i 0) (T.getD m 0))∧∀ i,i<max (R.bandK T b c n m).length (R.bandT T b c n m).length→R.Room ((R.bandK T b c n m).getD i 0) ((R.bandT T b c n m).getD i 0)
 | 0,_=>⟨⟨1,by decide,by rw [Nat.zero_mul];decide,fun j=>⟨0,by rw [R.bandK,zCu,Rat.zero_mul];rfl,by simp⟩⟩,fun m hm=>by omega⟩
 | k+1,hk=>by
  obtain ⟨h1,h2⟩:=zLN hT hc hb hn20 hA hB k (by omega);have hs:k*(A+21*B+300)≤20*(A+21*B+300):=Nat.mul_le_mul_right _ (by omega);obtain ⟨p1,-⟩:=zGZ hb (Nat.le_of_ble_eq_true rfl) (by omega) (n-k) (by omega);obtain ⟨q1,-⟩:=zGZ hc (Nat.le_of_ble_eq_true rfl) (by omega) k (by omega);have hs2:(n-k)*(B+6)+k*(B+6)≤20*(B+6):=by rw [← Nat.add_mul];exact Nat.mul_le_mul_right _ (by omega)
  have hpl:=R.powR_len [c,0,1] k;rw [show ([c,0,1]:Poly).length=3 from rfl] at hpl;obtain ⟨m1,m2⟩:=zGb (m:=7) q1 p1 (by show _≤128;omega) (by omega);obtain ⟨r1,s1,-⟩:=zIW (m:=k) m2 hT (by omega);obtain ⟨r2,a1,-⟩:=zMO (p:=R.bandK T b c n k) (q:=R.bandT T b c n k) h1 s1 (by omega);refine ⟨a1.le (by rw [Nat.add_mul];omega),fun m hm => ?_⟩;rcases Nat.lt_succ_iff_lt_or_eq.1 hm with e | e
  · exact h2 m e
  · rw [e];exact ⟨m1,r1,r2⟩
theorem qt_ch (h:Qt a x) (p:Poly) (hp:∀ k,co p k=x∨co p k=1∨co p k=0):CH (a+1) p:=by
 obtain ⟨D,z,h1,h2,h3,h4⟩:=h;refine ⟨D,h1,by rw [Nat.pow_succ];omega,fun k => ?_⟩;rcases hp k with e | e | e
 · exact ⟨z,by rw [e];exact h2,by rw [Nat.pow_succ];omega⟩
 · exact ⟨D,by rw [e,Rat.one_mul],by rw [Nat.pow_succ];omega⟩
 · exact ⟨0,by rw [e,Rat.zero_mul];rfl,by simp⟩
theorem band_law {b c:Rat} {A:Nat} (hp:CH A p) (hA:A<100000) (hb:Qt 133 b) (hc:Qt 133 c) :
 bandS p b c=some (R.bandR p b c)∧(¬ (¬ 0<b∨¬ 0<c)→trim p≠[]→(trim p).length≤21→R.BandRoom (trim p) b c ((trim p).length-1))∧∀ j,sz (co (R.bandR p b c).1 j)<1000000000:=by
 have hT:CH A (trim p):=CH.of_co hp (zDa p);have hc3:CH 134 [c,0,1]:=qt_ch hc _ fun k=>by
  match k with
  | 0=>exact .inl rfl
  | 1=>exact .inr (.inr rfl)
  | 2=>exact .inr (.inl rfl)
  | k+3=>exact .inr (.inr (by rw [zBB,zBB,zBB,zCu]))
 have hb2:CH 134 [0,b]:=qt_ch hb _ fun k=>by
  match k with
  | 0=>exact .inr (.inr rfl)
  | 1=>exact .inl rfl
  | k+2=>exact .inr (.inr (by rw [zBB,zBB,zCu]))
 have hsz0:∀ j,sz (co ([]:Poly) j)<1000000000:=fun j=>by rw [zCu];decide
 unfold bandS R.bandR zJs;by_cases h1:41<(trim p).length
 · rw [if_pos h1,if_pos h1];exact ⟨rfl,fun _ _ h=>by omega,hsz0⟩
 rw [if_neg h1,if_neg h1];by_cases h2:¬ 0<b∨¬ 0<c
 · rw [if_pos h2,if_pos h2];exact ⟨rfl,fun h=>absurd h2 h,hsz0⟩
 rw [if_neg h2,if_neg h2];by_cases h3:trim p=[]
 · rw [if_pos h3,if_pos h3];exact ⟨rfl,fun _ h=>absurd h3 h,hsz0⟩
 rw [if_neg h3,if_neg h3];by_cases h4:21<(trim p).length
 · rw [if_pos h4,if_pos h4];exact ⟨rfl,fun _ _ h=>by omega,hsz0⟩
 rw [if_neg h4,if_neg h4];generalize trim p=T at *;have hl0:0<T.length:=List.length_pos_iff.2 h3;obtain ⟨n,hn⟩:∃ n,T.length=n+1:=⟨T.length-1,by omega⟩;rw [hn,Nat.add_sub_cancel];obtain ⟨l,l1,l2,l3,l4⟩:=zHu hT hc3 hb2 hn (by omega) hA (by decide) (n+1) 0 [] (by omega) (fun m hm=>by simp at hm) (by simp) ⟨1,by decide,by rw [Nat.zero_mul];decide,fun j=>⟨0,by rw [zCu,Rat.zero_mul];rfl,by simp⟩⟩ (fun j=>by rw [zCu,gsum]);obtain ⟨k1,k2⟩:=zLN (n:=n) hT hc3 hb2 (by omega) hA (by decide) (n+1) (Nat.le_refl _);have hlk:l=R.bandK T b c n (n+1):=by
  refine zFZ l2 (zBz _) fun j => ?_;rw [l4];have:=zJj T b c n j (n+1) 0;rw [Nat.zero_add,R.bandK,zCu,Rat.zero_add] at this;exact this
 have hs:(n+1)*(A+21*134+300)≤21*(A+21*134+300):=Nat.mul_le_mul_right _ (by omega);refine ⟨?_,fun _ _ _=>⟨(zGZ hc3 (Nat.le_of_ble_eq_true rfl) (by decide) n (by omega)).2,(zGZ hb2 (Nat.le_of_ble_eq_true rfl) (by decide) n (by omega)).2,fun k hk=>(k2 k (by omega)).1,fun k hk=>(k2 k (by omega)).2.1,fun k hk=>(k2 k (by omega)).2.2⟩,fun j => ?_⟩
 · rw [show R.powR [0,b] 0=[1] from rfl] at l1;rw [l1,hlk];rfl
 · have:=k1.sz j;show sz (co (R.bandK T b c n (n+1)) j)<_;omega
variable {L:List (List UInt8)} {k:Nat}
theorem bes_eq:∀ n:Fin 21,zNL n=some (R.besR n):=by decide +kernel
theorem bin_eq:∀ n:Fin 21,zMQ n=some (R.powR [1,1] n):=by decide +kernel
theorem bes_all:∀ n:Fin 21,((R.besR n).all fun x=>decide (sz x<1000000000))=true:=by decide +kernel
theorem zNK:CH 1 [1,1]:=⟨1,by decide,by decide,fun k=>by
 match k with
 | 0=>exact ⟨1,by rw [zCS];exact Rat.one_mul _,by decide⟩
 | 1=>exact ⟨1,by rw [zBB,zCS];exact Rat.one_mul _,by decide⟩
 | k+2=>exact ⟨0,by rw [zBB,zBB,zCu,Rat.zero_mul];rfl,by simp⟩⟩
theorem bin_room (k:Nat) (hk:k<20):R.MulRoom (R.powR [1,1] k) [1,1]:=(zGZ zNK (Nat.le_of_ble_eq_true rfl) (by decide) 20 (Nat.le_refl _)).2 k hk
def famL (i:Int) (f:Nat→Poly):Poly:=if i<0∨20<i then [] else f i.toNat
def famE (i:Int):Int:=if i<0∨20<i then 7 else 0
theorem besselE_all (i:Int):zHc i=some (famL i R.besR,famE i):=by
 unfold zHc zEX famL famE;by_cases h:i<0∨20<i
 · rw [if_pos h,if_pos h,if_pos h]
 · rw [if_neg h,if_neg h,if_neg h];have:=bes_eq ⟨i.toNat,by omega⟩;show (zNL i.toNat).map _=_;rw [this];rfl
theorem binomialE_all (i:Int):zFf i=some (famL i (R.powR [1,1]),famE i):=by
 unfold zFf zEX famL famE;by_cases h:i<0∨20<i
 · rw [if_pos h,if_pos h,if_pos h]
 · rw [if_neg h,if_neg h,if_neg h];have:=bin_eq ⟨i.toNat,by omega⟩;show (zMQ i.toNat).map _=_;rw [this];rfl
def FineP (p:Poly):Prop:=∀ i,i<p.length→Fine (p.getD i 0).num.natAbs∧Fine (p.getD i 0).den
theorem FineP.of_sz (h:∀ j,sz (co p j)<1000000000):FineP p:=fun i _=>zMz (h i)
theorem FineP.of_mem (h:∀ x,x∈p→sz x<1000000000):FineP p:=fun i hi=>by
 refine zMz ?_;rw [List.getD_eq_getElem?_getD,List.getElem?_eq_getElem hi];exact h _ (List.getElem_mem hi)
theorem FineP.nil:FineP []:=fun i hi=>by simp at hi
theorem bes_fine (i:Int):FineP (famL i R.besR):=by
 unfold famL;split
 · exact FineP.nil
 · have:=bes_all ⟨i.toNat,by omega⟩;rw [List.all_eq_true] at this;exact FineP.of_mem fun x hx=>of_decide_eq_true (this x hx)
theorem bin_fine (i:Int):FineP (famL i (R.powR [1,1])):=by
 unfold famL;split
 · exact FineP.nil
 · obtain ⟨h,-⟩:=zGZ zNK (Nat.le_of_ble_eq_true rfl) (by decide) i.toNat (by omega);exact FineP.of_sz fun j=>by
    have h1:=h.sz j;have h2:i.toNat*(1+6)≤20*(1+6):=Nat.mul_le_mul_right _ (by omega);omega
theorem zKr (x:Rat):∀ k,R.powq x k=x^k
 | 0=>by rw [R.powq,Rat.pow_zero]
 | k+1=>by rw [R.powq,zKr x k,Rat.pow_succ]
theorem zKO (p:Poly) (x:Rat) (k:Nat):co (trim (R.scaledR p x)) k=co p k*x^k:=by
 rw [zDa];by_cases hk:k<p.length
 · unfold co R.scaledR;simp [hk,zKr]
 · rw [co_ge (by simp [R.scaledR];omega),show co p k=0 from co_ge (by omega),Rat.zero_mul]
theorem zLT {w:Rat} {U V N:Nat} (hw:w≠0) (hUV:U+V<1099511627776) (hVV:V+V<1099511627776) (hV:∀ k,k≤N→sz (w^k)≤V):∀ {p:Poly} {j:Nat},(∀ k,sz (co p k)≤U)→1≤N→j+p.length≤N →
 ∃ r,denL w p (w^j)=some r∧r.length=p.length∧∀ k,co r k=co p k*(1/w)^(j+k)
 | [],j,_,_,_=>⟨[],rfl,rfl,fun k=>by rw [zCu,Rat.zero_mul]⟩
 | c :: p,j,hU,h1N,hj=>by
  simp only [List.length_cons] at hj;have h1:rdiv c (w^j)=some (c/w^j):=hrdiv_some (by have a:=hU 0;have b:=hV j (by omega);rw [zCS] at a;omega);have h2:rmul (w^j) w=some (w^(j+1)):=by
   rw [rmul_some' (by have a:=hV j (by omega);have b:=hV 1 h1N;rw [Rat.pow_one] at b;omega),Rat.pow_succ]
  obtain ⟨r,hr,hrl,hrc⟩:=zLT hw hUV hVV hV (p:=p) (j:=j+1) (fun k=>by have:=hU (k+1);rw [zBB] at this;exact this) h1N (by omega);refine ⟨c/w^j :: r,?_,by simp [hrl],fun k => ?_⟩
  · unfold denL;rw [h1];show ((rmul (w^j) w).bind _)=_;rw [h2];show ((denL w p (w^(j+1))).bind _)=_;rw [hr];rfl
  · cases k with
    | zero =>
     rw [zCS,zCS,Nat.add_zero];have e1:=zMg hw j;have e2:=zNN hw j;grind
    | succ k=>rw [zBB,zBB,hrc,show j+1+k=j+(k+1) by omega]
theorem zLe (hx:Qt 133 x) (hk:k≤60):sz (x^k)≤15964:=by
 have:=qt_sz (zMh (zNW hx k) (Nat.mul_le_mul_left 133 hk));omega
theorem ch_qt_sz {A:Nat} (hp:CH A p) (hy:Qt a y) (k:Nat):sz (co p k*y)≤2*(A+a):=by
 obtain ⟨D,d1,d2,d3⟩:=hp;obtain ⟨z,z1,z2⟩:=d3 k;obtain ⟨E,z0,e1,e2,e3,e4⟩:=hy;have hb:∀ {m n:Nat},2*m≤2^A→n≤2^a→2*(m*n)≤2^(A+a):=fun {m n} hm hn=>by
  rw [Nat.pow_add,← Nat.mul_assoc];exact Nat.mul_le_mul hm hn
 refine sz_of (D:=D*E) (z:=z*z0) (Int.mul_ne_zero d1 e1) ?_ (by rw [Int.natAbs_mul];exact hb z2 e4) (by rw [Int.natAbs_mul];exact hb d2 e3);rw [Rat.intCast_mul,Rat.intCast_mul,← z1,← e2];grind
theorem denorm_law2 {A:Nat} (hp:CH A p) (hl:p.length≤60) (hA:A<100000) (hx:Qt 133 x) :
 zEv p x=some (R.denormR p x)∧(0<x→R.Room 1 x∧∀ i,i<p.length→R.Room (p.getD i 0) (R.powq (1/x) i)∧R.Room (R.powq (1/x) i) (1/x))∧FineP (R.denormR p x).1:=by
 unfold zEv R.denormR;have hT:CH A (trim p):=CH.of_co hp (zDa p);have hroom:0<x→R.Room 1 x∧∀ i,i<p.length→R.Room (p.getD i 0) (R.powq (1/x) i)∧R.Room (R.powq (1/x) i) (1/x):=fun h0=>by
  have hne:x≠0:=by grind
  have hi:=zNS hne hx;have h1:sz x≤2*(133+1):=qt_sz hx;have h2:sz (1/x)≤2*(133+1):=qt_sz hi;refine ⟨by unfold R.Room;rw [sz_one];omega,fun i hi' => ?_⟩;rw [zKr];have h3:=zLe hi (k:=i) (by omega);have h4:=hp.sz i;unfold co at h4;unfold R.Room;omega
 by_cases h41:41<(trim p).length
 · rw [if_pos h41,if_pos h41];exact ⟨rfl,hroom,FineP.nil⟩
 rw [if_neg h41,if_neg h41];by_cases h0:0<x
 · rw [if_pos h0,if_pos h0];have hne:x≠0:=by grind
   have hi:=zNS hne hx;obtain ⟨d,h1,h2,h3⟩:=zLT (w:=x) (U:=200000) (V:=15964) (N:=60) hne (by omega) (by omega) (fun k hk=>zLe hx hk) (p:=trim p) (j:=0) (fun k=>by have:=hT.sz k;omega) (by decide) (by omega);rw [Rat.pow_zero] at h1;have hd:d=trim (R.scaledR p (1/x)):=by
    refine zFZ (fun m hm => ?_) (zBz _) fun k=>by rw [h3,Nat.zero_add,zKO,zDa]
    rw [h3,Nat.zero_add];intro e;rcases Rat.mul_eq_zero.1 e with e | e
    · exact zBz p m (by omega) e
    · exact zNN (w:=1/x) (by grind) _ e
   refine ⟨by rw [h1,hd];rfl,hroom,FineP.of_sz fun j => ?_⟩;rw [zKO];by_cases hj:j<p.length
   · have:=ch_qt_sz hp (zMh (zNW hi j) (Nat.mul_le_mul_left 133 (show j≤60 by omega))) j;omega
   · rw [show co p j=0 from co_ge (by omega),Rat.zero_mul];decide
 · rw [if_neg h0,if_neg h0];exact ⟨rfl,hroom,FineP.nil⟩
theorem zLm (h:x∈trim p):x∈p:=by
 obtain ⟨m,-,e,-⟩:=zHJ p;rw [e] at h;exact List.mem_of_mem_take h
theorem high_law2 (h:∀ x,x∈p→sz x<1000000000):high p=R.highR p∧FineP (R.highR p).1:=by
 refine ⟨rfl,?_⟩;unfold R.highR;split
 · exact FineP.nil
 · split
   · exact FineP.nil
   · exact FineP.of_mem fun x hx=>h x (zLm (List.mem_reverse.1 (zLm hx)))
theorem zLq (h:shM L=true):L.length≤60∧∀ i,i<L.length→(L.getD i []).length≤40:=by
 unfold shM grM at h;simp only [Bool.and_eq_true,decide_eq_true_eq,List.all_eq_true,Bool.not_eq_true',Bool.or_eq_false_iff,decide_eq_false_iff_not] at h;exact ⟨by omega,fun i hi=>by rw [List.getD_eq_getElem?_getD,List.getElem?_eq_getElem hi];exact h.2 _ (List.getElem_mem hi)⟩
theorem nums_law (h:shM L=true):(numsS L).length≤60∧CH 7981 (numsS L)∧∀ x,x∈numsS L→sz x<1000000000:=by
 obtain ⟨h1,h2⟩:=zLq h;have hm:∀ q,q∈numsS L→q.num.natAbs<10^40∧q.den<10^40:=fun q hq=>by
  unfold numsS at hq;obtain ⟨t,ht,rfl⟩:=List.mem_map.1 hq;obtain ⟨i,hi,rfl⟩:=List.getElem_of_mem ht;have:=h2 i hi;rw [List.getD_eq_getElem?_getD,List.getElem?_eq_getElem hi] at this;exact zHD this
 have hl:(numsS L).length≤60:=by simp [numsS];omega
 have hc:=ch_small 60 hl hm;refine ⟨hl,hc,fun x hx => ?_⟩;obtain ⟨i,hi,rfl⟩:=List.getElem_of_mem hx;have:=hc.sz i;unfold co at this;rw [List.getD_eq_getElem?_getD,List.getElem?_eq_getElem hi] at this;have e:(some (numsS L)[i]).getD 0=(numsS L)[i]:=rfl;rw [e] at this;omega
end Go.Proofs.YtjiendlfobjanaaGreatDoor
namespace Go.Proofs.YtjiendlfobjanaaGreatDoor
open Go Go.RowKit Go.Proofs Tryz
set_option maxRecDepth 10000
set_option maxHeartbeats 2000000
attribute [local irreducible] Runs WPE CallK Ret
variable {E N b ix:Nat} {K:Value→World→Prop} {L:List (List UInt8)} {P:Program} {T ty:TypeId} {af:Array Edge} {g:Option (Nat×Bool)} {p:Poly} {pos:String} {r:Option Nat} {u v:Value} {w:World} {x:Rat} {σ:Operand→Value}
theorem zEp {d:Option Tmp} {T:Nat} {x i:Operand} {k:IntKind} (hT:P.underlying T=some (.array N E)) (hE:(P.info? E).map (·.size)=some 1) (hx:σ x = .pointer (some ⟨b,0,none⟩)) (hi:σ i = .int k (ix:Int)) (h1:ix<N) (hk:K (.pointer (some ⟨b,ix,none⟩)) w):Runs P r ⟨d,.indexAddr T x i,ty,pos,af,g⟩ σ w K:=by
 refine zu (fun _ e=>by cases e) ?_ hk;have hl:P.arrayLen T=N:=by simp [Program.arrayLen,hT]
 simp [execOp,Instr.indexAt,run_underlying hT,hx,hi,asIntOf,h1,run_sizeOf' hE,zAY,Instr.sureAddr]
theorem zHK:prog.underlying 74=some (.array 2 52):=by kernel_rfl
theorem zLQ:(prog.info? 52).map (·.size)=some 1:=by kernel_rfl
theorem IsVs.two {t s:List UInt8} (hB:Blk w b T [S t,S s]):IsVs w (.slice (some ⟨b,0,none⟩) 2 2) [t,s]:=by
 refine ⟨_,2,rfl,Nat.le_refl _,fun i hi => ?_⟩
 match i,hi with
 | 0,_=>exact ⟨⟨b,0,none⟩,rfl,hB.lt,by rw [zAY,hB.cell];rfl⟩
 | 1,_=>exact ⟨⟨b,0,none⟩,rfl,hB.lt,by rw [zAY,hB.cell];rfl⟩
theorem Denorm0_ok {R:Poly×Int} (hp:IsPoly w v p) (hx:IsNum w u x) (h0:trim p=[]) (h:zEv p x=some R):Ret prog 36 #[v,u] w (fun r w'=>∃ t,r = .tuple #[t,.int .i64 R.2]∧IsPoly w' t R.1):=by
 have h41:¬ 41<(trim p).length:=by rw [h0];decide
 obtain ⟨xn,xd,rfl,hxn,hxd⟩:=hx;have hx:IsNum w (.agg #[.bool (decide (x<0)),xn,xd]) x:=⟨_,_,rfl,hxn,hxd⟩;clear hxn hxd;have E0:Ext w w:=Ext.refl w;refine J0 38 func36 rfl (rj fun K => ?_);refine K1 (zo fun b1 w1 hb hE hB1 hs => ?_);have hgb1:w.heap.size≤b1:=by rw [hb];exact E0.size
 replace E0:=E0.trans hE;replace hp:=hp.ext hE;replace hx:=hx.ext hE;clear hE hs hb;refine ag (ag (rm [0,3] K ?_));refine zA (zE (zA ?_));have hNX:NumAt b1 x _:=⟨_,hB1,rfl,hx⟩;clear hB1 hx;refine rI fun K=>K1 (j2 E0 hp.ext hNX.ext hb79 (zFs hp) fun vi w2 E0 hp hNX hr => ?_);subst hr;refine ag (rs [0,3,8] K ?_);refine wcf (congrArg Value.bool (decide_eq_false h41)) (rj fun K=>K1 (zU rfl hNX fun v12 N12 => ?_));refine K1 (zKQ N12 fun v13 w4 hE hS => ?_);replace E0:=E0.trans hE;replace hp:=hp.ext hE;replace hNX:=hNX.ext hE;clear hE N12;refine K1 (j2 E0 hp.ext hNX.ext hb99 (zIt hS) fun vi w2 E0 hp hNX hr => ?_);subst hr;clear hS;refine K1 (zl rfl (ag (rm [0,3,11] K ?_)));refine K0 rfl ?_ ?_<;>intro hc
 · have hx0:¬ 0<x:=by simpa using hc
   clear hc;obtain rfl:R=([],7):=by unfold zEv at h;rw [if_neg h41,if_neg hx0] at h;exact (Option.some.inj h).symm
   refine rj fun K=>ag (ag (rm [0,4,5] K ?_));exact zC (zV (zR (zO ⟨rfl,_,zW rfl rfl rfl,E0,_,rfl,IsPoly.nil⟩)))
 · have hx0:0<x:=by simpa using hc
   clear hc;unfold zEv at h;rw [if_neg h41,if_pos hx0,h0] at h;obtain rfl:=Option.some.inj h;refine zn (zQ (zL (rJ fun K=>K1 (j1 E0 hNX.ext hb34 (zAk hp) fun v17 w2 E0 hNX N17 => ?_))));rw [h0] at N17;obtain ⟨tp,tc,rfl,htc,hTR,htl,hto⟩:=N17;clear hTR hto hp;refine ag (rm [0,3] K ?_);refine rj fun K=>K1 (j1 E0 hNX.ext hb100 (zHU) fun v18 w2 E0 hNX N18 => ?_);refine K1 (zX zAa fun fb w2 hb hE hBf hs => ?_);have hgf:w.heap.size≤fb:=by rw [hb];exact E0.size
   replace E0:=E0.trans hE;replace N18:=N18.ext hE;clear hE hb hs hNX;refine K1 (zM rfl N18 (Cell3.of hBf rfl) fun _ w9 hU hF => ?_);replace E0:=E0.upd hU hgf;clear hU hBf N18 hF;refine rm [0,3,6] K ?_;refine zA (rJ fun K=>K1 (zH zAA rfl (mv (rm [0,3,6,20,21] K ?_))));refine zE (zZ (X:=Nat) (fun _ ρ w'=>Keep ρ [(0,.slice tp 0 tc),(20,.int .i64 0),(21,.int .i64 0)]∧Ext w w') (fun _=>0) 0 ⟨(kp rfl),E0⟩ ?_);clear E0;rintro i ρ1 w1 ⟨hk,E0⟩;refine wpe_k _ hk ?_;clear hk ρ1;refine rj fun K=>K8 rfl (rm [0,20,21,22] K ?_);refine zA (wcf rfl (zS (zw (zh (zK (zL (rJ fun K=>ag (ag (rm [0,4,5,20,21] K ?_)))))))));exact zC (zO ⟨rfl,_,zW rfl rfl rfl,E0,_,rfl,tp,tc,rfl,Nat.zero_le _,.inl rfl,by decide⟩)
theorem Denorm_all {R:Poly×Int} (hp:IsPoly w v p) (hx:IsNum w u x) (h:zEv p x=some R):Ret prog 36 #[v,u] w (fun r w'=>∃ t,r = .tuple #[t,.int .i64 R.2]∧IsPoly w' t R.1):=by
 by_cases h0:trim p=[]
 · exact Denorm0_ok hp hx h0 h
 · exact (Denorm_ok hp hx h0 h).mono fun _ _ _ ⟨t,e,ht⟩=>⟨t,e,ht.poly⟩
theorem FilterFamilies_ok {i:Int} {t s:List UInt8} (hv:IsVs w v L) (hP:Pow10 w):Ret prog 8 #[.int .i64 i,v,.agg #[S t,S s]] w (fun r _=>r = .bool true):=by
 obtain ⟨pl,cl,rfl,hcl,hin⟩:=hv;have hv:IsVs w (.slice pl L.length cl) L:=⟨pl,cl,rfl,hcl,hin⟩;clear hin;refine J0 154 func8 rfl (rj fun K => ?_);refine K1 (zo fun b1 w1 hb hE hB1 hs => ?_);have hgb1:w.heap.size≤b1:=by rw [hb];exact E0.size
 replace E0:=E0.trans hE;replace hv:=hv.ext hE;clear hE hs hb;refine ag (rm [0,1,5] K ?_);refine zA (zA ?_);replace hB1:Blk _ b1 74 [S t,S s]:=hB1;refine rI fun K=>K1 (zEp (ix:=0) zHK zLQ rfl rfl (by decide) (K1 (zF zCa rfl hB1 rfl (K1 (zEp (ix:=1) zHK zLQ rfl rfl (by decide) (K1 (zF zCa rfl hB1 rfl ?_)))))));refine K1 (zY (cs:=[S t,S s]) Tryz.underlying22 info52' (by decide) (by decide) (by kernel_rfl) fun b6 w7 hb7 hE hB7 hs => ?_);replace E0:=E0.trans hE;replace hv:=hv.ext hE;replace hB1:=hB1.ext hE;clear hE hb7 hs;have hv1:=IsVs.two hB7;clear hB7;refine K1 (zY (cs:=[.slice pl L.length cl,.slice (some ⟨b6,0,none⟩) 2 2]) zIy info22' (by decide) (by decide) (by kernel_rfl) fun b7 w7 hb7 hE hB7 hs => ?_);replace E0:=E0.trans hE;replace hv:=hv.ext hE;replace hv1:=hv1.ext hE;replace hB1:=hB1.ext hE;clear hE hb7 hs;refine K1 (j2 E0 hv.ext hB1.ext hb22 (shortL_ok (IsVV.two (K:=[t,s]) hB7 hv hv1) (by simp)) fun vs w2 E0 hv hB1 hr => ?_);clear hB7 hv1;obtain rfl:=hr.trans (congrArg Value.bool (show [L,[t,s]].all shM=(shM L&&shM [t,s]) by simp));refine K1 (zl rfl (rs [0,1,5,23] K ?_));refine K0 rfl ?_ ?_<;>intro hc
 · refine rj fun K=>K1 (j2 E0 hv.ext hB1.ext hb14 (zLj) fun va w3 E0 hv hB1 hr => ?_);subst hr;refine ag (rm [6] K ?_);exact zC (zR (en rfl E0 rfl))
 · have hLt:shM L=true∧shM [t,s]=true:=by
    cases h1:shM L with
    | true=>cases h2:shM [t,s] with
     | true=>exact ⟨rfl,rfl⟩
     | false=>rw [h1,h2] at hc;cases hc
    | false=>rw [h1] at hc;cases hc
   clear hc;obtain ⟨hL,hts⟩:=hLt;obtain ⟨hl60,hl40⟩:=zLq hL;have ht40:t.length≤40:=(zLq hts).2 0 (by simp);have hs40:s.length≤40:=(zLq hts).2 1 (by simp);obtain ⟨n60,nch,nsz⟩:=nums_law hL;refine sk (rJ fun K=>K1 (j2 E0 hv.ext hB1.ext hb32 (Bessel_ok (besselE_all i)) fun vf w3 E0 hv hB1 hr => ?_));obtain ⟨ua,rfl,ha⟩:=hr;replace ha:=ha.poly;refine mv (xt rfl (xt rfl (ag (ag (rm [0,1,5,7,8] K ?_)))));refine rJ fun K=>K1 (j3 E0 hv.ext hB1.ext ha.ext hb47 (R.Bessel_ok (i:=i)) fun vg w4 E0 hv hB1 ha hr => ?_);obtain ⟨ub,rfl,hb⟩:=hr;replace hb:R.IsPoly _ ub (famL i R.besR):=hb;refine mv (xt rfl (xt rfl (ag (ag (rm [0,1,5,7,8,9,10] K ?_)))));refine zA (rJ fun K=>mv (K9 (false) rfl (bne_self_eq_false _) (mv (K7 (K7 (K2 (j4 E0 hv.ext hB1.ext ha.ext hb.ext hb26 (zGs ha hb (bes_fine i) (hP.ext E0)) fun vs w5 E0 hv hB1 ha hb hr => ?_)))))));clear ha hb;subst hr;refine K2 (zl rfl (pk rfl (rm [0,1,5,43] K ?_)));refine wcf rfl (sk (rJ fun K=>K1 (j2 E0 hv.ext hB1.ext hb33 (Binomial_ok (binomialE_all i)) fun vf w6 E0 hv hB1 hr => ?_)));obtain ⟨ua,rfl,ha⟩:=hr;replace ha:=ha.poly;refine mv (xt rfl (xt rfl (ag (ag (rm [0,1,5,7,8] K ?_)))));refine rJ fun K=>K1 (j3 E0 hv.ext hB1.ext ha.ext hb48 (R.Binomial_ok (i:=i) bin_room) fun vg w7 E0 hv hB1 ha hr => ?_);obtain ⟨ub,rfl,hb⟩:=hr;replace hb:R.IsPoly _ ub (famL i (R.powR [1,1])):=hb
   refine mv (xt rfl (xt rfl (ag (ag (rm [1,5,7,8,9,10] K ?_)))));refine zA (rJ fun K=>mv (K9 (false) rfl (bne_self_eq_false _) (mv (K7 (K7 (K2 (j4 E0 hv.ext hB1.ext ha.ext hb.ext hb26 (zGs ha hb (bin_fine i) (hP.ext E0)) fun vs w8 E0 hv hB1 ha hb hr => ?_)))))));clear ha hb;subst hr;refine K2 (zl rfl (pk rfl (rm [1,5,62] K ?_)));refine wcf rfl (sk (rj fun K=>mv ?_));refine K1 (j2 E0 hv.ext hB1.ext hb15 (zNB hv (fun j hj=>by have:=hl40 j hj;omega) (by omega)) fun vx0 w9 E0 hv hB1 hr => ?_);obtain ⟨vx,vy,rfl,hxa,hya⟩:=hr;have hx:=(hxa.own (by omega)).poly;have hy:=hya.poly (by omega);clear hxa hya;refine mv (xt rfl (xt rfl (ag (ag (rm [5,11,12] K ?_)))));refine rj fun K=>K1 (zEp (ix:=0) zHK zLQ rfl rfl (by decide) (K1 (zF zCa rfl hB1 rfl (K1 (zEp (ix:=1) zHK zLQ rfl rfl (by decide) (K1 (zF zCa rfl hB1 rfl ?_)))))));refine K1 (zY (cs:=[S t,S s]) Tryz.underlying22 info52' (by decide) (by decide) (by kernel_rfl) fun b8 w7 hb7 hE hB7 hs => ?_);replace E0:=E0.trans hE;replace hv:=hv.ext hE;replace hB1:=hB1.ext hE;replace hx:=hx.ext hE;replace hy:=hy.ext hE;clear hE hb7 hs;have hv1:=IsVs.two hB7;clear hB7;have htwo:∀ j,j<[t,s].length→([t,s].getD j []).length<1000000000:=fun j hj=>by
    match j,hj with
    | 0,_=>show t.length<_;omega
    | 1,_=>show s.length<_;omega
   refine K1 (j4 E0 hv.ext hB1.ext hx.ext hy.ext hb15 (zNB hv1 htwo (by simp)) fun vu0 w10 E0 hv hB1 hx hy hr => ?_);obtain ⟨vu,vz,rfl,hua,hza⟩:=hr;have qx:=zLa ht40;have qy:=zLa hs40;have hu:IsPoly _ vu [(ze t).1,(ze s).1]:=(hua.own (by simp [numsS])).poly;have hz:R.IsPoly _ vz [(ze t).1,(ze s).1]:=hza.poly (by simp [numsS]);clear hua hza hv1;generalize (ze t).1=x at qx hu hz;generalize (ze s).1=y at qy hu hz;generalize numsS L=p at n60 nch nsz hx hy;obtain ⟨l1,l2,l3⟩:=denorm_law2 nch n60 (by decide) qx;obtain ⟨m1,m2,m3⟩:=band_law nch (by decide) qx qy;obtain ⟨phu,cu,rfl,hcu,huP,hul⟩:=hu;obtain ⟨phz,cz,rfl,hcz,hzP,hzl⟩:=hz;refine mv (xt rfl (xt rfl (ag (ag (rm [11,12,13,14] K ?_)))));refine rJ fun K=>mv (K1 (runs_pindex (l:=[x,y]) (ix:=0) huP rfl rfl (by simp) (K1 (runs_pload (l:=[x,y]) (i:=0) huP (by simp) rfl fun vn hvn => ?_))));replace hvn:IsNum _ vn x:=hvn;refine K1 (j6 E0 hv.ext hB1.ext hx.ext hy.ext huP.ext hzP.ext hb36 (Denorm_all hx hvn l1) fun vd w11 E0 hv hB1 hx hy huP hzP hr => ?_);obtain ⟨ua,rfl,ha⟩:=hr;clear hvn;refine mv (xt rfl (xt rfl (ag (ag (rm [7,8,11,12,13,14] K ?_)))));refine rJ fun K=>mv (K1 (R.runs_pindex (l:=[x,y]) (ix:=0) hzP rfl rfl (by simp) (K1 (R.runs_pload (l:=[x,y]) (i:=0) hzP (by simp) rfl fun vn hvn => ?_))));replace hvn:R.IsR _ vn x:=hvn
   refine K1 (j7 E0 hv.ext hB1.ext hx.ext hy.ext huP.ext hzP.ext ha.ext hb49 (R.Denorm_ok hy hvn l2) fun ve w12 E0 hv hB1 hx hy huP hzP ha hr => ?_);obtain ⟨ub,rfl,hb⟩:=hr;clear hvn;refine mv (xt rfl (xt rfl (ag (ag (rm [7,8,9,10,11,12,13,14] K ?_)))));refine zA (rJ fun K=>mv (K9 (false) rfl (bne_self_eq_false _) (mv (K7 (K7 (K2 (j8 E0 hv.ext hB1.ext hx.ext hy.ext huP.ext hzP.ext ha.ext hb.ext hb26 (zGs ha hb (l3) (hP.ext E0)) fun vs w13 E0 hv hB1 hx hy huP hzP ha hb hr => ?_)))))));clear ha hb;subst hr;refine K2 (zl rfl (pk rfl (rm [11,12,13,14,101] K ?_)));refine wcf rfl (sk (rJ fun K=>K1 (j6 E0 hv.ext hB1.ext hx.ext hy.ext huP.ext hzP.ext hb35 (High_ok hx) fun vd w14 E0 hv hB1 hx hy huP hzP hr => ?_)));obtain ⟨ua,rfl,ha⟩:=hr;replace ha:IsPoly _ ua (R.highR p).1:=ha.poly;refine mv (xt rfl (xt rfl (ag (ag (rm [7,8,11,12,13,14] K ?_)))));refine rJ fun K=>K1 (j7 E0 hv.ext hB1.ext hx.ext hy.ext huP.ext hzP.ext ha.ext hb50 (R.High_ok hy) fun ve w15 E0 hv hB1 hx hy huP hzP ha hr => ?_);obtain ⟨ub,rfl,hb⟩:=hr;refine mv (xt rfl (xt rfl (ag (ag (rm [7,8,9,10,11,12,13,14] K ?_)))));refine zA (rJ fun K=>mv (K9 (false) rfl (bne_self_eq_false _) (mv (K7 (K7 (K2 (j8 E0 hv.ext hB1.ext hx.ext hy.ext huP.ext hzP.ext ha.ext hb.ext hb26 (zGs ha hb ((high_law2 nsz).2) (hP.ext E0)) fun vs w16 E0 hv hB1 hx hy huP hzP ha hb hr => ?_)))))));clear ha hb;subst hr
   refine K2 (zl rfl (pk rfl (rm [11,12,13,14,120] K ?_)));refine wcf rfl (sk (zA (zAK [([(11,none)],none),([(13,none)],none),([(123,some 0)],none),([(124,some 0)],none),([(13,none)],none),([(126,some 0)],none),([(127,some 0)],none),([(122,some 6),(125,some 3),(128,some 0)],none),([(129,some 0)],none),([(121,some 0)],none),([(121,some 1)],none),([(130,some 1)],none),([(131,some 1)],none)] mixed (by kernel_rfl) (by kernel_rfl) (by kernel_rfl) fun K hK=>dvp (fun σ wx hE hk=>zD ⟨Ext.refl _,hk.1⟩) (dvp (fun σ wx hE hk=>zD ⟨Ext.refl _,hk.1⟩) (dcp (fun v _=>v = .pointer (phu.map fun a=>a.add (3*0))) (fun _ _ _ _ _ h=>h) (fun σ wx hE hk=>runs_pindex (l:=[x,y]) (ix:=0) (huP.ext hE) hk.1 rfl (by simp) ⟨Ext.refl _,rfl⟩) (dcp (fun v w'=>IsNum w' v x) (fun _ _ _ _ hx h=>h.ext hx.toExt) (fun σ wx hE hk=>runs_pload (l:=[x,y]) (i:=0) (huP.ext hE) (by simp) hk.1 fun v h=>⟨Ext.refl _,h⟩) (dvp (fun σ wx hE hk=>zD ⟨Ext.refl _,hk.1⟩) (dcp (fun v _=>v = .pointer (phu.map fun a=>a.add (3*1))) (fun _ _ _ _ _ h=>h) (fun σ wx hE hk=>runs_pindex (l:=[x,y]) (ix:=1) (huP.ext hE) hk.1 rfl (by simp) ⟨Ext.refl _,rfl⟩) (dcp (fun v w'=>IsNum w' v y) (fun _ _ _ _ hx h=>h.ext hx.toExt) (fun σ wx hE hk=>runs_pload (l:=[x,y]) (i:=1) (huP.ext hE) (by simp) hk.1 fun v h=>⟨Ext.refl _,h⟩) ?_)))))))))
   refine dcp (fun v w'=>∃ z,v = .tuple #[z,.int .i64 (R.bandR p x y).2]∧IsPoly w' z (R.bandR p x y).1) (fun _ _ _ _ hx h=>(let ⟨z,e,hz⟩:=h;⟨z,e,hz.ext hx.toExt⟩)) (fun σ wx hE hk=>zG hb51 (CallK.of_ret (Band_ok (IsPoly.of_eq hk.1 (hx.ext hE)) hk.2.1 hk.2.2.1 m1) fun v w2 hX hr=>⟨hX,hr⟩) rfl) ?_;refine dcp (fun v w'=>∃ z,v = .tuple #[z,.int .i64 (R.bandR p x y).2]∧IsPoly w' z (R.bandR p x y).1) (fun _ _ _ _ hx h=>(let ⟨z,e,hz⟩:=h;⟨z,e,hz.ext hx.toExt⟩)) (fun σ wx hE hk=>zD ⟨Ext.refl _,hk.1⟩) ?_;refine dcp (fun v w'=>IsPoly w' v (R.bandR p x y).1) (fun _ _ _ _ hx h=>h.ext hx.toExt) (fun σ wx hE hk=>(let ⟨z,e,hz⟩:=hk.1;zBS e rfl ⟨Ext.refl _,hz⟩)) ?_;refine dcp (fun v _=>v = .int .i64 (R.bandR p x y).2) (fun _ _ _ _ _ h=>h) (fun σ wx hE hk=>(let ⟨z,e,hz⟩:=hk.1;zBS e rfl ⟨Ext.refl _,rfl⟩)) ?_;refine dcp (fun v w'=>IsPoly w' v (R.bandR p x y).1) (fun _ _ _ _ hx h=>h.ext hx.toExt) (fun σ wx hE hk=>zT ⟨Ext.refl _,hk.1⟩) (dcp (fun v _=>v = .int .i64 (R.bandR p x y).2) (fun _ _ _ _ _ h=>h) (fun σ wx hE hk=>zT ⟨Ext.refl _,hk.1⟩) (zAe (hK _ fun wq hE => ?_)));rintro _ rfl _ rfl v124 N124 v125 N125 _ rfl v127 N127 v128 N128 v129 N129 v121 N121 v130 N130 v131 N131 v7 N7 v8 N8;refine zg ?_;replace E0:=E0.trans hE
   replace hv:=hv.ext hE;replace hB1:=hB1.ext hE;replace hx:=hx.ext hE;replace hy:=hy.ext hE;replace huP:=huP.ext hE;replace hzP:=hzP.ext hE;clear hE;refine zL (K5 [7,8,12,14] ?_);refine zA ?_;subst N8;clear N124 N125 N127 N128 N129 N121 N130 N131
   refine zAK [([(12,none)],none),([(14,none)],none),([(134,some 0)],none),([(135,some 0)],none),([(14,none)],none),([(137,some 0)],none),([(138,some 0)],none),([(133,some 6),(136,some 3),(139,some 0)],none),([(140,some 0)],none),([(132,some 0)],none),([(132,some 1)],none),([(141,some 1)],none),([(142,some 1)],none)] mixed (by kernel_rfl) (by kernel_rfl) (by kernel_rfl) fun K hK=>dvp (fun σ wx hE hk=>zD ⟨Ext.refl _,hk.1⟩) (dvp (fun σ wx hE hk=>zD ⟨Ext.refl _,hk.1⟩) (dcp (fun v _=>v = .pointer (phz.map fun a=>a.add (3*0))) (fun _ _ _ _ _ h=>h) (fun σ wx hE hk=>R.runs_pindex (l:=[x,y]) (ix:=0) (hzP.ext hE) hk.1 rfl (by simp) ⟨Ext.refl _,rfl⟩) (dcp (fun v w'=>R.IsR w' v x) (fun _ _ _ _ hx h=>h.ext hx.toExt) (fun σ wx hE hk=>R.runs_pload (l:=[x,y]) (i:=0) (hzP.ext hE) (by simp) hk.1 fun v h=>⟨Ext.refl _,h⟩) (dvp (fun σ wx hE hk=>zD ⟨Ext.refl _,hk.1⟩) (dcp (fun v _=>v = .pointer (phz.map fun a=>a.add (3*1))) (fun _ _ _ _ _ h=>h) (fun σ wx hE hk=>R.runs_pindex (l:=[x,y]) (ix:=1) (hzP.ext hE) hk.1 rfl (by simp) ⟨Ext.refl _,rfl⟩) (dcp (fun v w'=>R.IsR w' v y) (fun _ _ _ _ hx h=>h.ext hx.toExt) (fun σ wx hE hk=>R.runs_pload (l:=[x,y]) (i:=1) (hzP.ext hE) (by simp) hk.1 fun v h=>⟨Ext.refl _,h⟩) ?_))))))
   refine dcp (fun v w'=>∃ z,v = .tuple #[z,.int .i64 (R.bandR p x y).2]∧R.IsPoly w' z (R.bandR p x y).1) (fun _ _ _ _ hx h=>(let ⟨z,e,hz⟩:=h;⟨z,e,hz.ext hx.toExt⟩)) (fun σ wx hE hk=>zG hb52 (CallK.of_ret (R.Band_ok (R.IsPoly.of_eq hk.1 (hy.ext hE)) hk.2.1 hk.2.2.1 m2) fun v w2 hX hr=>⟨hX,hr⟩) rfl) ?_;refine dcp (fun v w'=>∃ z,v = .tuple #[z,.int .i64 (R.bandR p x y).2]∧R.IsPoly w' z (R.bandR p x y).1) (fun _ _ _ _ hx h=>(let ⟨z,e,hz⟩:=h;⟨z,e,hz.ext hx.toExt⟩)) (fun σ wx hE hk=>zD ⟨Ext.refl _,hk.1⟩) ?_;refine dcp (fun v w'=>R.IsPoly w' v (R.bandR p x y).1) (fun _ _ _ _ hx h=>h.ext hx.toExt) (fun σ wx hE hk=>(let ⟨z,e,hz⟩:=hk.1;zBS e rfl ⟨Ext.refl _,hz⟩)) ?_;refine dcp (fun v _=>v = .int .i64 (R.bandR p x y).2) (fun _ _ _ _ _ h=>h) (fun σ wx hE hk=>(let ⟨z,e,hz⟩:=hk.1;zBS e rfl ⟨Ext.refl _,rfl⟩)) ?_;refine dcp (fun v w'=>R.IsPoly w' v (R.bandR p x y).1) (fun _ _ _ _ hx h=>h.ext hx.toExt) (fun σ wx hE hk=>zT ⟨Ext.refl _,hk.1⟩) (dcp (fun v _=>v = .int .i64 (R.bandR p x y).2) (fun _ _ _ _ _ h=>h) (fun σ wx hE hk=>zT ⟨Ext.refl _,hk.1⟩) (zAe (hK _ fun wq hE => ?_)));rintro _ rfl _ rfl v135 N135 v136 N136 _ rfl v138 N138 v139 N139 v140 N140 v132 N132 v141 N141 v142 N142 v9 N9 v10 N10;refine zg ?_;replace E0:=E0.trans hE
   replace hv:=hv.ext hE;replace hB1:=hB1.ext hE;replace hx:=hx.ext hE;replace hy:=hy.ext hE;replace huP:=huP.ext hE;replace hzP:=hzP.ext hE;replace N7:=N7.ext hE;clear hE;refine zL (K5 [7,8,9,10] ?_);refine zA ?_;subst N10;clear N135 N136 N138 N139 N140 N132 N141 N142;refine rI fun K=>mv (K9 (true) rfl (beq_self_eq_true _) (mv (K7 (K7 (K2 (j8 E0 hv.ext hB1.ext hx.ext hy.ext huP.ext hzP.ext N7.ext N9.ext hb26 (zGs N7 N9 (FineP.of_sz m3) (hP.ext E0)) fun vs w17 E0 hv hB1 hx hy huP hzP N7 N9 hr => ?_))))));subst hr;refine pk rfl (mv (K2 (j8 E0 hv.ext hB1.ext hx.ext hy.ext huP.ext hzP.ext N7.ext N9.ext hb14 (zLj) fun va w18 E0 hv hB1 hx hy huP hzP N7 N9 hr => ?_)));subst hr;refine pk rfl (ag (rs [6] K ?_));exact zC (en rfl E0 rfl)
end Go.Proofs.YtjiendlfobjanaaGreatDoor
