/-
  A part of the proof: Chain, W23, Chain2, W24, W25, W26, W27, W28, W29, PolyO, Frac, W30, W31p, W31, W32p, W32, W33, W34, Str, ParseS, W35, W36, W37, W38, Bands, W39, W40.
-/
import Derived.Test.YtjiendlfobjanaaGreatDoorH03
import Derived.ChangeKeysEq
import Derived.Laws.Strings
import Derived.Laws.StructEq
import Derived.Lib.IndexMore
namespace Go.Proofs.YtjiendlfobjanaaGreatDoor
open Go Go.RowKit Go.Proofs Tryz
variable {af:Array Edge} {cap i ix:Nat} {g:Option (Nat×Bool)} {p:Option Addr} {pos:String} {r:Option Nat} {t' ty:TypeId} {v:Value} {w w':World} {x y:Operand} {σ:Operand→Value}
def CRd (w:World) (p:Option Addr) (c:List Poly):Prop :=
 c=[]∨∃ b o cs,p=some ⟨b,o,none⟩∧Blk w b 25 cs∧o+c.length≤cs.length∧∀ i,i<c.length→∃ v,cs[o+i]? = some v∧zM w v (c.getD i [])
def zBB (w:World) (v:Value) (c:List Poly):Prop:=∃ p cap,v = .slice p c.length cap∧c.length≤cap∧CRd w p c∧c.length≤8192
theorem CRd.ext {c:List Poly} (h:CRd w p c) (hx:Ext w w'):CRd w' p c:=by
 rcases h with h | ⟨b,o,cs,h1,h2,h3,h4⟩
 · exact .inl h
 · exact .inr ⟨b,o,cs,h1,h2.ext hx,h3,fun i hi=>let ⟨v,e1,e2⟩:=h4 i hi;⟨v,e1,e2.ext hx⟩⟩
theorem zBB.ext {c:List Poly} (h:zBB w v c) (hx:Ext w w'):zBB w' v c:=by
 obtain ⟨p,k,h1,h2,h3,h4⟩:=h;exact ⟨p,k,h1,h2,h3.ext hx,h4⟩
theorem CRd.at {c:List Poly} (h:CRd w p c) (hi:i<c.length):∃ b o cs v,p=some ⟨b,o,none⟩∧Blk w b 25 cs∧cs[o+i]? = some v∧zM w v (c.getD i []):=by
 rcases h with h | ⟨b,o,cs,h1,h2,h3,h4⟩
 · subst h;simp at hi
 · obtain ⟨v,e1,e2⟩:=h4 i hi;exact ⟨b,o,cs,v,h1,h2,e1,e2⟩
theorem zHR:zAZ prog 240 25 1:=by unfold zAZ;exact ⟨by kernel_rfl,by kernel_rfl⟩
theorem zEW:prog.underlying 240=some (.slice 25):=by kernel_rfl
theorem zLu:Plain prog 240:=by unfold Plain;exact ⟨by kernel_rfl,by kernel_rfl⟩
theorem zNm:(prog.info? 25).map (fun i=>(i.zero,i.size,i.bytes))=some (some (.slice none 0 0),1,24):=by kernel_rfl
theorem info25':(prog.info? 25).map (fun i=>(i.zero,i.size))=some (some (.slice none 0 0),1):=by kernel_rfl
theorem size321:(prog.info? 321).map (·.size)=some 2:=by kernel_rfl
theorem zHY:Aggr prog 321 2:=by unfold Aggr;exact ⟨by kernel_rfl,by kernel_rfl⟩
theorem zero321:(prog.info? 321).bind (·.zero)=some (.agg #[.int .i64 0,.int .i64 0]):=by kernel_rfl
theorem under3':prog.underlying 3=some (.int .i64):=by kernel_rfl
theorem under321:prog.underlying 321=some (.array 2 3):=by kernel_rfl
section laws
variable {K:Value→World→Prop} {d:Option Tmp}
theorem zFc {i:Operand} {c:List Poly} {k:IntKind} (hP:CRd w p c) (hx:σ x = .slice p c.length cap) (hi:σ i = .int k (ix:Int)) (h1:ix<c.length) (hk:K (.pointer (p.map fun a=>a.add ix)) w):Runs prog r ⟨d,.indexAddr 240 x i,ty,pos,af,g⟩ σ w K:=by
 obtain ⟨b,o,cs,v,e1,h2,h3,h4⟩:=hP.at h1;subst e1;refine zO zHR hx hi (by omega) (by omega) ?_;rw [show o+((ix:Nat):Int).toNat*1=o+ix from by omega];simpa [zAk] using hk
theorem zGj {c:List Poly} (hP:CRd w p c) (hi:i<c.length) (hx:σ x = .pointer (p.map fun a=>a.add i)) (hk:∀ v,zM w v (c.getD i [])→K v w):Runs prog r ⟨d,.load 25 x,ty,pos,af,g⟩ σ w K:=by
 obtain ⟨b,o,cs,v,h1,h2,h3,h4⟩:=hP.at hi;rw [h1] at hx;exact zD (o:=o+i) zBQ (by rw [hx];simp [zAk]) h2 h3 (hk v h4)
theorem run_equalIn_int3 (m:Nat) (a b:Int) (w:World):(Op.equalIn (m+1) 3 (.int .i64 a) (.int .i64 b)).run prog w = .ok (a==b) w:=by
 unfold Op.equalIn;simp [run_underlying under3']
theorem run_equal321 (a b c e:Int) (w:World):(Op.equal 321 (.agg #[.int .i64 a,.int .i64 b]) (.agg #[.int .i64 c,.int .i64 e])).run prog w = .ok (a==c&&b==e) w:=by
 obtain ⟨i3,hi3⟩:=Option.isSome_iff_exists.1 (show (prog.info? 3).isSome=true from by kernel_rfl);have h:=run_equalIn_array (P:=prog) w 9999 #[.int .i64 a,.int .i64 b] #[.int .i64 c,.int .i64 e] under321 hi3;show (Op.equalIn 10000 321 _ _).run prog w=_;rw [h,show prog.cellsOf 3=1 from by kernel_rfl];have hp:∀ (xs:Array Value) (i:Nat) (v:Value),xs[i]? = some v→(part 3 xs i).run prog w = .ok v w:=fun xs i v hv=>by
  simp [part,zBR.isAgg,hv]
 have he:∀ x y:Int,(Op.equalIn 9999 3 (.int .i64 x) (.int .i64 y)).run prog w = .ok (x==y) w:=fun x y=>run_equalIn_int3 9998 x y w;rw [show List.range 2=[0,1] from rfl];have p1:=hp #[.int .i64 a,.int .i64 b] 0 (.int .i64 a) rfl;have p2:=hp #[.int .i64 a,.int .i64 b] 1 (.int .i64 b) rfl;have p3:=hp #[.int .i64 c,.int .i64 e] 0 (.int .i64 c) rfl;have p4:=hp #[.int .i64 c,.int .i64 e] 1 (.int .i64 e) rfl;simp only [Op.eqItems,Sem.run_bind,Nat.zero_mul,Nat.one_mul,p1,p2,p3,p4,Result.andThen_ok,he];have e1:=he a c;have e2:=he b e;cases h1:a==c<;>cases h2:b==e<;>rw [h1] at e1<;>rw [h2] at e2<;>simp [p2,p4,e1,e2]
theorem zGG {a b c e:Int} (q:Bool) (hx:σ x = .agg #[.int .i64 a,.int .i64 b]) (hy:σ y = .agg #[.int .i64 c,.int .i64 e]) (hq:(a==c&&b==e)=q) (hk:K (.bool q) w):Runs prog r ⟨d,.binOp .eql 321 x y t',ty,pos,af,g⟩ σ w K:=by
 refine zl (fun _ e=>by cases e) ?_ hk;have hm:prog.eqGuardType prog.depth 321=false:=by kernel_rfl
 simp [execOp,binOp,hx,hy,run_eqGuard_agg,hm,run_equal321,hq]
end laws
end Go.Proofs.YtjiendlfobjanaaGreatDoor
namespace Go.Proofs.YtjiendlfobjanaaGreatDoor
open Go Go.RowKit Go.Proofs Tryz
set_option maxRecDepth 10000
set_option maxHeartbeats 2000000
attribute [local irreducible] Runs WPE CallK Ret
variable {bx i:Nat} {cv u v:Value} {f:FuncId} {w w':World}
theorem drop_consI {l:List Int} (h:i<l.length):l.drop i=l.getD i 0 :: l.drop (i+1):=by
 rw [List.drop_eq_getElem_cons h];simp [h]
theorem zEI {α β:Type} {f:α→Option β}:∀ {l:List α} {r:List β},mapO f l=some r→r.length=l.length
 | [],r,h=>by cases h;rfl
 | x :: l,r,h=>by
  unfold mapO at h;obtain ⟨y,_,h⟩:=bind_some h;obtain ⟨r',hr,h⟩:=bind_some h;cases h;simp [zEI hr]
theorem zLl {α β:Type} {f:α→Option β} (a:α) (b:β):∀ {l:List α} {r:List β} {i:Nat},mapO f l=some r→i<l.length→f (l.getD i a)=some (r.getD i b)
 | [],r,i,h,hi=>by simp at hi
 | x :: l,r,i,h,hi=>by
  unfold mapO at h;obtain ⟨y,hy,h⟩:=bind_some h;obtain ⟨r',hr,h⟩:=bind_some h;cases h;cases i with
  | zero=>simpa using hy
  | succ i=>simpa using zLl a b hr (by simpa using hi)
theorem zLg {k:Value} {c:List Poly} {signs:List Int} (hc:zBB w cv c) (hf:zAq prog f) (hlen:signs.length=c.length) (hsig:∀ i,i<c.length→∀ (w':World) (v:Value),Ext w w'→zM w' v (c.getD i [])→Ret prog f #[v,k] w' (fun u _=>u = .int .i64 (signs.getD i 0))):Ret prog 172 #[cv,.func (.func f) #[] #[k]] w (fun u _=>u = .int .i64 (flipL signs 0 0)):=by
 obtain ⟨cp,cc,rfl,hcc,hC,hcl⟩:=hc;have E0:Ext w w:=Ext.refl w;refine J0 38 func172 rfl (rj fun K=>ag (rm [0,1] K ?_));refine rj fun K=>ag (ag (rm [0,1,5,6] K ?_));refine zA (rJ fun K=>K1 (zJ zHR rfl (mv (rm [1,5,6,11,12,13] K ?_))));refine zG (zo (X:=Nat) (fun i ρ w'=>∃ n last,Keep ρ [(1,.func (.func f) #[] #[k]),(5,.int .i64 n),(6,.int .i64 last),(11,.slice cp c.length cc),(12,.int .i64 (c.length:Nat)),(13,.int .i64 (i:Nat))]∧i≤c.length∧Ext w w'∧0≤n∧n≤i∧flipL (signs.drop i) last n=flipL signs 0 0) (fun i=>c.length-i) 0 ⟨0,0,(kp rfl),Nat.zero_le _,E0,Int.le_refl _,Int.le_refl _,rfl⟩ ?_);clear E0;rintro i ρ1 w1 ⟨n,last,hk,hil,E0,hn0,hni,hfl0⟩;refine wpe_k _ hk ?_;clear hk ρ1;refine rj fun K=>K8 rfl (rm [1,5,6,11,12,13,14] K ?_);refine zA ?_;refine K0 rfl ?_ ?_<;>intro hc
 · have hlt:i<c.length:=t_lt hc;clear hc;have hC1:=hC.ext E0;rw [drop_consI (by omega),flipL] at hfl0;refine sk (zA (zG (rj fun K=>K1 (zFc hC1 rfl rfl hlt (K1 (zGj hC1 hlt rfl fun v16 N16=>ag (rm [1,5,6,8,11,12,13] K ?_)))))));refine rJ fun K=>mv (K1 (zBU rfl hf (CallK.of_ret (hsig i hlt _ v16 E0 N16) fun v19 w2 hE hr => ?_)));subst hr;replace E0:=E0.trans hE;clear hE N16 hC1;refine ag (rm [1,5,6,9,11,12,13] K ?_);refine zA (rJ fun K=>K8 rfl (rm [1,5,6,9,11,12,13,21] K ?_));refine K0 rfl ?_ ?_<;>intro hc
   · have hs0:(signs.getD i 0)=0:=eq_of_beq hc;clear hc;rw [if_pos hs0] at hfl0;have hfl:=hfl0;exact zi (zAE (zP (zN (K6 fun K=>K8 rfl (mv (rl K (zV (⟨rfl,i+1,⟨_,_,⟨rfl,rfl,rfl,rfl,rfl,rfl,rfl,rfl,rfl,rfl,rfl,congrArg (Value.int .i64) (zAD (by omega)),trivial⟩,by omega,E0,by omega,by omega,hfl⟩,by omega⟩))))))))
   · have hs0:(signs.getD i 0)≠0:=beq_eq_false_iff_ne.1 hc;clear hc;rw [if_neg hs0] at hfl0;refine sk (zA (rJ fun K=>mv (K1 (zj (cs := #[.int .i64 last,.int .i64 (signs.getD i 0)]) (by kernel_rfl) ?_))));refine K1 (zK zero321 fun b1 w1 hb hE hB1 hs => ?_);have hgb1:w.heap.size≤b1:=by rw [hb];exact E0.size
     replace E0:=E0.trans hE;clear hE hs hb;refine K1 (zZ size321 rfl hB1 rfl (Nat.le_of_ble_eq_true rfl) (by decide) rfl fun w2 hU hN => ?_);replace E0:=E0.upd hU hgb1;clear hB1;have hB1:=hN;clear hN hU;refine rm [1,5,6,9,10,11,12,13] K ?_;refine zA ?_;rcases (show (last=1∧(signs.getD i 0) = -1)∨(¬ (last=1∧(signs.getD i 0) = -1)∧(last = -1∧(signs.getD i 0)=1))∨(¬ (last=1∧(signs.getD i 0) = -1)∧¬ (last = -1∧(signs.getD i 0)=1)) from by omega) with h1 | ⟨h1,h2⟩ | ⟨h1,h2⟩
     · have hfl:flipL (signs.drop (i+1)) (signs.getD i 0) (n+1)=flipL signs 0 0:=by rw [← hfl0,if_pos (Or.inl h1)]
       refine K6 fun K=>K1 (zW zHY rfl hB1 (Nat.le_of_ble_eq_true rfl) (K1 (zj (cs := #[.int .i64 1,.int .i64 (-1)]) (by kernel_rfl) ?_)));refine K1 (zGG true rfl rfl (by rw [h1.1,h1.2];rfl) ?_);refine mv (K3 (K3 (K3 (pc0 rfl (rs [1,5,6,9,11,12,13,29,30,31,32] K ?_)))));refine wct rfl (rI fun K=>K1 (zH (v := .int .i64 (n+1)) rfl rfl (congrArg (fun z=>some (Value.int .i64 z)) (zAG (by omega) (by omega))) (ag (rs [1,5,6,9,11,12,13,29,30,31] K ?_))));refine rI fun K=>ag (rl K (zT (zN (K5 [1,5,6,11,12,13,29,30,31] ?_))));exact K6 fun K=>K8 rfl (mv (rl K (zV (⟨rfl,i+1,⟨_,_,⟨rfl,rfl,rfl,rfl,rfl,rfl,rfl,rfl,rfl,rfl,rfl,congrArg (Value.int .i64) (zAD (by omega)),trivial⟩,by omega,E0,by omega,by omega,hfl⟩,by omega⟩))))
     · have hfl:flipL (signs.drop (i+1)) (signs.getD i 0) (n+1)=flipL signs 0 0:=by rw [← hfl0,if_pos (Or.inr h2)]
       refine K6 fun K=>K1 (zW zHY rfl hB1 (Nat.le_of_ble_eq_true rfl) (K1 (zj (cs := #[.int .i64 1,.int .i64 (-1)]) (by kernel_rfl) ?_)));refine K1 (zGG false rfl rfl (by rw [h2.1];rfl) ?_);refine mv (K2 (zW zHY rfl hB1 (Nat.le_of_ble_eq_true rfl) (K2 (zj (cs := #[.int .i64 (-1),.int .i64 1]) (by kernel_rfl) ?_))));refine K2 (zGG true rfl rfl (by rw [h2.1,h2.2];rfl) ?_);refine pc0 rfl (rs [1,5,6,9,11,12,13,29,30,31,32] K ?_);refine wct rfl (rI fun K=>K1 (zH (v := .int .i64 (n+1)) rfl rfl (congrArg (fun z=>some (Value.int .i64 z)) (zAG (by omega) (by omega))) (ag (rs [1,5,6,9,11,12,13,29,30,31] K ?_))));refine rI fun K=>ag (rl K (zT (zN (K5 [1,5,6,11,12,13,29,30,31] ?_))));exact K6 fun K=>K8 rfl (mv (rl K (zV (⟨rfl,i+1,⟨_,_,⟨rfl,rfl,rfl,rfl,rfl,rfl,rfl,rfl,rfl,rfl,rfl,congrArg (Value.int .i64) (zAD (by omega)),trivial⟩,by omega,E0,by omega,by omega,hfl⟩,by omega⟩))))
     · have hfl:flipL (signs.drop (i+1)) (signs.getD i 0) n=flipL signs 0 0:=by rw [← hfl0,if_neg (by rintro (a | a);exact h1 a;exact h2 a)]
       refine K6 fun K=>K1 (zW zHY rfl hB1 (Nat.le_of_ble_eq_true rfl) (K1 (zj (cs := #[.int .i64 1,.int .i64 (-1)]) (by kernel_rfl) ?_)));refine K1 (zGG false rfl rfl (by rw [Bool.eq_false_iff];intro e;rw [Bool.and_eq_true,beq_iff_eq,beq_iff_eq] at e;exact h1 e) ?_);refine mv (K2 (zW zHY rfl hB1 (Nat.le_of_ble_eq_true rfl) (K2 (zj (cs := #[.int .i64 (-1),.int .i64 1]) (by kernel_rfl) ?_))));refine K2 (zGG false rfl rfl (by rw [Bool.eq_false_iff];intro e;rw [Bool.and_eq_true,beq_iff_eq,beq_iff_eq] at e;exact h2 e) ?_);refine pc0 rfl (rs [1,5,6,9,11,12,13,29,30,31,32] K ?_);refine wcf rfl (sk (rI fun K=>ag (rl K (zT (zN (K5 [1,5,6,11,12,13,29,30,31] ?_))))));exact K6 fun K=>K8 rfl (mv (rl K (zV (⟨rfl,i+1,⟨_,_,⟨rfl,rfl,rfl,rfl,rfl,rfl,rfl,rfl,rfl,rfl,rfl,congrArg (Value.int .i64) (zAD (by omega)),trivial⟩,by omega,E0,by omega,by omega,hfl⟩,by omega⟩))))
 · have hge:=f_lt hc;obtain rfl:i=c.length:=by omega
   clear hc;rw [List.drop_eq_nil_of_le (by omega),flipL] at hfl0;refine zi (zAE (zv (zP (zN (rJ fun K=>ag (rm [1,4,5,6,11,12,13] K ?_))))));exact zE (en rfl E0 (congrArg (Value.int .i64) hfl0))
theorem zLf {c:List Poly} {x:Rat} {s:Int} (hc:zBB w cv c) (hN:NumAt bx x w) (h:zGu x c=some s):Ret prog 172 #[cv,.func (.func 350) #[] #[.pointer (some ⟨bx,0,none⟩)]] w (fun u _=>u = .int .i64 s):=by
 obtain ⟨l,hl,rfl⟩:=map_some h;refine zLg hc hb350 (zEI hl) fun i hi w' v hE hv => ?_;obtain ⟨y,hy,hs⟩:=map_some (zLl [] 0 hl hi);rw [← hs];exact at1_ok hv (hN.ext hE) hy
theorem zCv {c:List Poly} {m:Bool} {bm:Nat} (hc:zBB w cv c) (hB:Blk w bm 4 [.bool m]) (h0:∀ i,i<c.length→c.getD i []≠[]):Ret prog 172 #[cv,.func (.func 258) #[] #[.pointer (some ⟨bm,0,none⟩)]] w (fun u _=>u = .int .i64 (zBi m c)):=by
 refine zLg (signs:=c.map (endS m)) hc hb258 (by simp) fun i hi w' v hE hv => ?_;rw [show (c.map (endS m)).getD i 0=endS m (c.getD i []) from by simp [hi]];exact ends1_ok hv (h0 i hi) (hB.ext hE)
def AtF (x:Rat) (v:Value) (w:World):Prop:=∃ bx,v = .func (.func 350) #[] #[.pointer (some ⟨bx,0,none⟩)]∧NumAt bx x w
theorem AtF.ext {x:Rat} (h:AtF x v w) (hx:Ext w w'):AtF x v w':=by
 obtain ⟨bx,e,hN⟩:=h;exact ⟨bx,e,hN.ext hx⟩
theorem between_ok {c:List Poly} {x y:Rat} {a b:Int} (hc:zBB w cv c) (hx:IsNum w u x) (hy:IsNum w v y) (ha:zGu x c=some a) (hb:zGu y c=some b):Ret prog 260 #[cv,u,v] w (fun r _=>r = .int .i64 (IntKind.i64.wrap (a-b))):=by
 have hx0:=hx;have hy0:=hy;obtain ⟨xn,xd,rfl,hxn,hxd⟩:=hx0;obtain ⟨yn,yd,rfl,hyn,hyd⟩:=hy0;refine J0 16 func260 rfl (rj fun K => ?_);refine K1 (zk fun b1 w1 hb hE hB1 hs => ?_);have hgb1:w.heap.size≤b1:=by rw [hb];exact E0.size
 replace E0:=E0.trans hE;replace hc:=hc.ext hE;replace hx:=hx.ext hE;replace hy:=hy.ext hE;clear hE hs hb;refine K1 (zk fun b2 w2 hb hE hB2 hs => ?_);have hgb2:w.heap.size≤b2:=by rw [hb];exact E0.size
 have ne_b1_b2:b1≠b2:=by have:=hB1.lt;omega
 replace E0:=E0.trans hE;replace hc:=hc.ext hE;replace hx:=hx.ext hE;replace hy:=hy.ext hE;replace hB1:=hB1.ext hE;clear hE hs hb;refine ag (rm [0,4,5] K ?_);refine zA (zAc [([(0,none)],none),([(4,none)],none),([(8,some 0)],none),([(7,some 2),(9,some 0)],none),([(0,none)],none),([(5,none)],none),([(12,some 0)],none),([(11,some 2),(13,some 0)],none),([(10,some 4),(14,some 0)],none),([(15,some 0)],none)] mixed (by kernel_rfl) (by kernel_rfl) (by kernel_rfl) fun K hK=>dvp (fun σ wx hE hk=>zF ⟨Ext.refl _,hk.1⟩) (dvp (fun σ wx hE hk=>zW zAB hk.1 (hB1.ext hE) (Nat.le_of_ble_eq_true rfl) ⟨Ext.refl _,rfl⟩) (dcp (AtF x) (fun _ _ _ _ hx h=>h.ext hx.toExt) (fun σ wx hE hk=>zC hb315 (CallK.of_ret (at_ok (IsNum.of_eq hk.1 (hx.ext hE))) fun v w2 hX hr=>⟨hX,hr⟩) rfl) ?_)));refine dcp (fun v _=>v = .int .i64 a) (fun _ _ _ _ _ h=>h) (fun σ wx hE hk=>(by obtain ⟨bx,e,hN⟩:=hk.2.1;exact zC hb172 (CallK.eq2 hk.1 e (CallK.of_ret (zLf (hc.ext hE) hN ha) fun v w2 hX hr=>⟨hX,hr⟩)) rfl)) ?_;refine dvp (fun σ wx hE hk=>zF ⟨Ext.refl _,hk.1⟩) (dvp (fun σ wx hE hk=>zW zAB hk.1 (hB2.ext hE) (Nat.le_of_ble_eq_true rfl) ⟨Ext.refl _,rfl⟩) (dcp (AtF y) (fun _ _ _ _ hx h=>h.ext hx.toExt) (fun σ wx hE hk=>zC hb315 (CallK.of_ret (at_ok (IsNum.of_eq hk.1 (hy.ext hE))) fun v w2 hX hr=>⟨hX,hr⟩) rfl) ?_))
 refine dcp (fun v _=>v = .int .i64 b) (fun _ _ _ _ _ h=>h) (fun σ wx hE hk=>(by obtain ⟨bx,e,hN⟩:=hk.2.1;exact zC hb172 (CallK.eq2 hk.1 e (CallK.of_ret (zLf (hc.ext hE) hN hb) fun v w2 hX hr=>⟨hX,hr⟩)) rfl)) ?_;refine dvp (fun σ wx hE hk=>zH hk.1 hk.2.1 rfl ⟨Ext.refl _,rfl⟩) (dvp (fun σ wx hE hk=>zp ⟨Ext.refl _,hk.1⟩) (zAR (hK _ fun wq hE => ?_)));rintro _ rfl _ rfl v9 N9 v10 N10 _ rfl _ rfl v13 N13 v14 N14 _ rfl _ rfl;refine zU ?_;replace E0:=E0.trans hE;replace hc:=hc.ext hE;replace hx:=hx.ext hE;replace hy:=hy.ext hE;replace hB1:=hB1.ext hE;replace hB2:=hB2.ext hE;clear hE;refine zN (K5 [6] ?_);exact zE (en rfl E0 rfl)
end Go.Proofs.YtjiendlfobjanaaGreatDoor
namespace Go.Proofs.YtjiendlfobjanaaGreatDoor
open Go Go.RowKit Go.Proofs Tryz
variable {T ty:TypeId} {af:Array Edge} {b b2 c:Nat} {cs:List Value} {g:Option (Nat×Bool)} {l:List Rat} {pos:String} {q:Rat} {r:Option Nat} {u v:Value} {w w' w0:World} {x y:Operand} {σ:Operand→Value}
theorem IsNum.updT (h:IsNum w v q) (hu:Upd b w w') (hb:Blk w b T cs) (hT:T≠164):IsNum w' v q:=h.upd hu hb hT
theorem zM.updT (h:zM w v l) (hu:Upd b w w') (hb:Blk w b T cs) (h1:T≠37) (h2:T≠164):zM w' v l:=by
 obtain ⟨p,c,e1,e2,e3,e4⟩:=h;refine ⟨p,c,e1,e2,?_,e4⟩;rcases e3 with e3 | ⟨b',o,cs',g1,g2,g3,g4⟩
 · exact .inl e3
 · exact .inr ⟨b',o,cs',g1,g2.upd hu (fun e=>by subst e;exact h1 (hb.inj g2).1),g3,fun i hi=>(g4 i hi).upd hu hb h2⟩
def KeepT (w w':World):Prop:=∀ b T cs,(T=37∨T=164∨T=67)→Blk w b T cs→Blk w' b T cs
theorem KeepT.trans {a b c:World} (h:KeepT a b) (k:KeepT b c):KeepT a c:=fun i T cs hT hb=>k i T cs hT (h i T cs hT hb)
theorem KeepT.ext (h:Ext w w'):KeepT w w':=fun _ _ _ _ hb=>hb.ext h
theorem KeepT.oth {l:Nat} (h:OthX l w w'):KeepT w w':=fun _ _ _ _ hb=>hb.oth h
theorem KeepT.upd (h:Upd b w w') (hb:Blk w b T cs) (h1:T≠37) (h2:T≠164) (h3:T≠67):KeepT w w':=fun c T' cs' hT hc=>hc.upd h fun e=>by
 subst e;have:=(hb.inj hc).1;subst this;rcases hT with e | e | e
 · exact h1 e
 · exact h2 e
 · exact h3 e
theorem zM.keep (h:zM w v l) (hk:KeepT w w'):zM w' v l:=by
 have kW:∀ {u:Value} {n:Nat},IsW w u n→IsW w' u n:=fun h=>by
  obtain ⟨p,ds,cap,h1,h2,h3,h4,h5⟩:=h;refine ⟨p,ds,cap,h1,h2,fun i hi => ?_,h4,h5⟩;obtain ⟨b,o,cs,e1,e2,e3⟩:=h3 i hi;exact ⟨b,o,cs,e1,hk _ _ _ (.inr (.inl rfl)) e2,e3⟩
 have kN:∀ {u:Value} {q:Rat},IsNum w u q→IsNum w' u q:=fun h=>by
  obtain ⟨n,d,e,h1,h2⟩:=h;exact ⟨n,d,e,kW h1,kW h2⟩
 obtain ⟨p,c,e1,e2,e3,e4⟩:=h;refine ⟨p,c,e1,e2,?_,e4⟩;rcases e3 with e3 | ⟨b',o,cs',g1,g2,g3,g4⟩
 · exact .inl e3
 · exact .inr ⟨b',o,cs',g1,hk _ _ _ (.inl rfl) g2,g3,fun i hi=>kN (g4 i hi)⟩
def AccC (sz:Nat) (w:World) (v:Value) (A:List Poly):Prop :=
 ∃ p c,v = .slice p A.length c∧A.length≤c∧((A=[]∧p=none∧c=0)∨∃ b cs,p=some ⟨b,0,none⟩∧sz≤b∧Blk w b 25 cs∧cs.length=c∧∀ i,i<A.length→∃ u,cs[i]? = some u∧zM w u (A.getD i []))
theorem AccC.nil {sz:Nat}:AccC sz w (.slice none 0 0) []:=⟨none,0,rfl,Nat.le_refl _,.inl ⟨rfl,rfl,rfl⟩⟩
theorem AccC.ext {sz:Nat} {A:List Poly} (h:AccC sz w v A) (hx:Ext w w'):AccC sz w' v A:=by
 obtain ⟨p,c,h1,h2,h3⟩:=h;refine ⟨p,c,h1,h2,?_⟩;rcases h3 with h3 | ⟨b,cs,e1,e2,e3,e4,e5⟩
 · exact .inl h3
 · exact .inr ⟨b,cs,e1,e2,e3.ext hx,e4,fun i hi=>let ⟨u,g1,g2⟩:=e5 i hi;⟨u,g1,g2.ext hx⟩⟩
theorem AccC.le {sz:Nat} {A:List Poly} (h:AccC sz w v A) (hx:BlkLe w w'):AccC sz w' v A:=by
 obtain ⟨p,c,h1,h2,h3⟩:=h;refine ⟨p,c,h1,h2,?_⟩;rcases h3 with h3 | ⟨b,cs,e1,e2,e3,e4,e5⟩
 · exact .inl h3
 · exact .inr ⟨b,cs,e1,e2,hx _ _ _ e3,e4,fun i hi=>let ⟨u,g1,g2⟩:=e5 i hi;⟨u,g1,g2.le hx⟩⟩
theorem AccC.upd {sz:Nat} {A:List Poly} (h:AccC sz w v A) (hu:Upd b w w') (hb:Blk w b T cs) (h1:T≠37) (h2:T≠164) (h3:T≠25):AccC sz w' v A:=by
 obtain ⟨p,c,g1,g2,g3⟩:=h;refine ⟨p,c,g1,g2,?_⟩;rcases g3 with g3 | ⟨b',cs',e1,e2,e3,e4,e5⟩
 · exact .inl g3
 · exact .inr ⟨b',cs',e1,e2,e3.upd hu (fun e=>by subst e;exact h3 (hb.inj e3).1),e4,fun i hi=>let ⟨u,k1,k2⟩:=e5 i hi;⟨u,k1,k2.updT hu hb h1 h2⟩⟩
theorem AccC.chain {sz:Nat} {A:List Poly} (h:AccC sz w v A) (hl:A.length≤8192):zBB w v A:=by
 obtain ⟨p,c,h1,h2,h3⟩:=h;rcases h3 with ⟨e1,e2,e3⟩ | ⟨b,cs,e1,e2,e3,e4,e5⟩
 · exact ⟨p,c,h1,h2,.inl e1,hl⟩
 · exact ⟨p,c,h1,h2,.inr ⟨b,0,cs,e1,e3,by omega,fun i hi=>by rw [Nat.zero_add];exact e5 i hi⟩,hl⟩
def AppC (sz:Nat) (w w':World):Prop:=Ext w w'∨∃ b cs,sz≤b∧Blk w b 25 cs∧Upd b w w'
theorem AppC.ext {sz:Nat} (h:AppC sz w w') (hs:w0.heap.size≤sz) (hE:Ext w0 w):Ext w0 w':=by
 rcases h with h | ⟨b,cs,h1,h2,h3⟩
 · exact hE.trans h
 · exact hE.upd h3 (by omega)
theorem AppC.blk {sz:Nat} (h:AppC sz w w') (hB:Blk w c T cs) (hT:T≠25):Blk w' c T cs:=by
 rcases h with h | ⟨b,cs',h1,h2,h3⟩
 · exact hB.ext h
 · exact hB.upd h3 (fun e=>by subst e;exact hT (hB.inj h2).1)
theorem AppC.keep {sz:Nat} (h:AppC sz w w'):KeepT w w':=by
 rcases h with h | ⟨b,cs',h1,h2,h3⟩
 · exact KeepT.ext h
 · exact KeepT.upd h3 h2 (by decide) (by decide) (by decide)
theorem AppC.nc {sz:Nat} (h:AppC sz w w'):NC w w':=by
 rcases h with h | ⟨b,cs',h1,h2,h3⟩
 · exact NC.ext h
 · exact NC.upd h3 h2
theorem zEc {K:Value→World→Prop} {d:Option Tmp} {sz:Nat} {A:List Poly} {q:Poly} 
 (hx:AccC sz w (σ x) A) (hy:σ y = .slice (some ⟨b2,0,none⟩) 1 1) (hB2:Blk w b2 25 [u]) (hq:zM w u q) (hA:A.length<8192) (hsz:sz≤w.heap.size)
 (hk:∀ v w',AppC sz w w'→AccC sz w' v (A++[q])→K v w') :
 Runs prog r ⟨d,.call { callee := .builtin .append,args := #[x,y],argTypes := #[240,240] },ty,pos,af,g⟩ σ w K:=by
 obtain ⟨p,c,h1,h2,h3⟩:=hx;have hok:[u].all zBl=true:=by obtain ⟨p',c',rfl,_⟩:=hq;rfl
 have getl:∀ i,i<A.length→(A++[q]).getD i []=A.getD i []:=fun i hi=>by simp [List.getElem?_append_left hi]
 have getr:(A++[q]).getD A.length []=q:=by simp
 by_cases hc:A.length+1≤c
 · rcases h3 with ⟨e1,e2,e3⟩ | ⟨b,cs,e1,e2,e3,e4,e5⟩
   · omega
   · subst e1;refine zBM (n:=1) zEW zEW zNm h1 hy e3 (Cells.blk hB2) rfl hc (by omega) hok fun w' hU hN=>hk _ w' (.inr ⟨b,cs,e2,e3,hU⟩) ?_;rw [Nat.zero_add,Nat.mul_one] at hN;refine ⟨_,c,by simp,by simpa using hc,.inr ⟨b,_,rfl,e2,hN,by rw [zAh];exact e4,fun i hi => ?_⟩⟩;show ∃ v,(cs.set A.length u)[i]? = some v∧_;by_cases hi':i<A.length
     · obtain ⟨v,g1,g2⟩:=e5 i hi';exact ⟨v,by rw [List.getElem?_set_ne (by omega)];exact g1,by rw [getl i hi'];exact g2.updT hU e3 (by decide) (by decide)⟩
     · have:i=A.length:=by simp at hi;omega
       subst this;exact ⟨u,by rw [List.getElem?_set_self (by omega)],by rw [getr];exact hq.updT hU e3 (by decide) (by decide)⟩
 · have hnew:=zAa (A.length+1) c;have hold:∃ old,Cells w p 25 old∧old.length=A.length*1∧∀ i,i<A.length→∃ v,old[i]? = some v∧zM w v (A.getD i []):=by
    rcases h3 with ⟨e1,e2,e3⟩ | ⟨b,cs,e1,e2,e3,e4,e5⟩
    · subst e1;exact ⟨[],.inl rfl,rfl,fun i hi=>by simp at hi⟩
    · refine ⟨cs.take A.length,.inr ⟨b,0,cs,e1,e3,by simp⟩,by simp;omega,fun i hi => ?_⟩;obtain ⟨v,g1,g2⟩:=e5 i hi;exact ⟨v,by rw [List.getElem?_take,if_pos hi];exact g1,g2⟩
   obtain ⟨old,o1,o2,o3⟩:=hold;refine zAJ zEW zEW zNm rfl (by decide) h1 hy o1 o2 (Cells.blk hB2) rfl (by omega) (by omega) fun w' rest c' g1 hE hB g2 _=>hk _ w' (.inl hE) ?_;have hrl:rest.length=(c'-(A.length+1))*1:=by rw [g2];simp [Builtin.zeroCells,Value.cells]
   refine ⟨_,c',by simp,by simpa using g1,.inr ⟨w.heap.size,_,rfl,hsz,hB,by simp [o2,hrl];omega,fun i hi => ?_⟩⟩;by_cases hi':i<A.length
   · obtain ⟨v,k1,k2⟩:=o3 i hi';exact ⟨v,by rw [List.append_assoc,List.getElem?_append_left (by omega)];exact k1,by rw [getl i hi'];exact k2.ext hE⟩
   · have:i=A.length:=by simp at hi;omega
     subst this;exact ⟨u,by rw [List.append_assoc,List.getElem?_append_right (by omega)];simp [o2],by rw [getr];exact hq.ext hE⟩
end Go.Proofs.YtjiendlfobjanaaGreatDoor
namespace Go.Proofs.YtjiendlfobjanaaGreatDoor
open Go Go.RowKit Go.Proofs Tryz
set_option maxRecDepth 10000
set_option maxHeartbeats 2000000
attribute [local irreducible] Runs WPE CallK Ret
variable {b1 b2 i:Nat} {vp:Value}
theorem zLH:Plain prog 67:=by unfold Plain;exact ⟨by kernel_rfl,by kernel_rfl⟩
theorem size67:(prog.info? 67).map (·.size)=some 1:=by kernel_rfl
theorem size240:(prog.info? 240).map (·.size)=some 1:=by kernel_rfl
theorem zero67:(prog.info? 67).bind (·.zero)=some .nilFunc:=by kernel_rfl
theorem zero240:(prog.info? 240).bind (·.zero)=some (.slice none 0 0):=by kernel_rfl
theorem pscale_length {p s:Poly} {x:Rat} (h:zFO p x=some s):s.length≤p.length:=by
 obtain ⟨L,h1,rfl⟩:=map_some h;exact Nat.le_trans (zBp L) (Nat.le_of_eq (zEI h1))
theorem psmall_length {p s:Poly} (h:zGD p=some s):s.length≤p.length:=by
 unfold zGD at h;split at h
 · cases h;simp
 · obtain ⟨c,_,h⟩:=bind_some h;exact Nat.le_trans (pscale_length h) (zBp p)
theorem zGs:∀ {f:Nat} {p q:Poly} {c:List Poly},zHc f p q=some c→c.length≤f∧∀ i,i<c.length→c.getD i []≠[]
 | 0,p,q,c,h=>by cases h
 | f+1,p,q,c,h=>by
  unfold zHc at h;split at h
  · cases h;exact ⟨Nat.zero_le _,fun i hi=>by simp at hi⟩
  · rename_i hp;split at h
    · cases h; exact ⟨by simp, fun i hi => by have : i = 0 := by simp at hi; omega
                                              subst this;simpa using hp⟩
    · obtain ⟨r,_,h⟩:=bind_some h;obtain ⟨s,_,h⟩:=bind_some h;obtain ⟨t,_,h⟩:=bind_some h;obtain ⟨l,hl,h⟩:=bind_some h;cases h;obtain ⟨g1,g2⟩:=zGs hl;refine ⟨by simp;omega,fun i hi => ?_⟩;cases i with
      | zero=>simpa using hp
      | succ i=>simpa using g2 i (by simpa using hi)
theorem zDA {p q:Poly} {c:List Poly} (h:chain p q=some c):c.length≤q.length+2∧∀ i,i<c.length→c.getD i []≠[]:=by
 obtain ⟨p',_,h⟩:=bind_some h;obtain ⟨q',hq,h⟩:=bind_some h;obtain ⟨g1,g2⟩:=zGs h;have:=psmall_length hq;exact ⟨by omega,g2⟩
def encP (c:List Poly) (i:Nat) (args:Array Value) (w:World):Prop:=∃ v,args = #[v]∧zM w v (c.getD i [])
theorem drop_head {c l:List Poly} {P:Poly} (h:c.drop i=P :: l):i<c.length∧c.getD i []=P∧c.drop (i+1)=l:=by
 have hi:i<c.length:=by
  rcases Nat.lt_or_ge i c.length with h1 | h1
  · exact h1
  · rw [List.drop_eq_nil_of_le h1] at h;cases h
 rw [List.drop_eq_getElem_cons hi] at h;have h1:=List.cons.inj h;exact ⟨hi,by simp [hi,h1.1],h1.2⟩
def SmF:Value := .func (.func 313) #[] #[]
theorem sturm2_ok {p q:Poly} {c:List Poly} (h:chain p q=some c) (l:Nat) (J:Nat→World→Prop) (hJe:∀ i w1 w2,J i w1→Ext w1 w2→J i w2) (hy:∀ i,i<c.length→∀ args w1,J i w1→encP c i args w1→zGp prog l args w1 (fun u w2=>u = .bool true∧J (i+1) w2∧KeepT w1 w2)) (w:World) (h0:J 0 w) {b3:Nat} {vq:Value} (hb1:Blk w b1 67 [SmF]) (hb2:Blk w b2 25 [vp]) (hb3:Blk w b3 25 [vq]) (hp:zM w vp p) (hq:zM w vq q):CallK prog 314 #[.func (.yield l) #[] #[],.pointer (some ⟨b1,0,none⟩),.pointer (some ⟨b2,0,none⟩),.pointer (some ⟨b3,0,none⟩)] w (fun _ w'=>J c.length w'):=by
 obtain ⟨p1,h1,h⟩:=bind_some h;obtain ⟨q1,h2,h3⟩:=bind_some h
 refine zBj 37 func314 rfl rfl (Nat.le_of_ble_eq_true rfl) (zA (zAc [([(1,none)],none),([(2,none)],none),([(9,some 1),(10,some 0)],none),([(1,none)],none),([(3,none)],none),([(12,some 1),(13,some 0)],none),([(11,some 3)],none),([(14,some 1)],none)] mixed (by kernel_rfl) (by kernel_rfl) (by kernel_rfl) fun K hK=>dcp (fun v _=>v=SmF) (fun _ _ _ _ _ h=>h) (fun σ wx hE hk=>zD zLH hk.1 (hb1.ext hE) rfl ⟨Ext.refl _,rfl⟩) (dcp (fun v w'=>zM w' v (p)) (fun _ _ _ _ hx h=>h.ext hx.toExt) (fun σ wx hE hk=>zD zBQ hk.1 (hb2.ext hE) rfl ⟨Ext.refl _,hp.ext hE⟩) (dcp (fun v w'=>zM w' v (p1)) (fun _ _ _ _ hx h=>h.ext hx.toExt) (fun σ wx hE hk=>zBU hk.1 hb313 (CallK.of_ret (zJt hk.2.1 h1) fun v w2 hX hr=>⟨hX,hr.poly⟩)) (dcp (fun v _=>v=SmF) (fun _ _ _ _ _ h=>h) (fun σ wx hE hk=>zD zLH hk.1 (hb1.ext hE) rfl ⟨Ext.refl _,rfl⟩) (dcp (fun v w'=>zM w' v (q)) (fun _ _ _ _ hx h=>h.ext hx.toExt) (fun σ wx hE hk=>zD zBQ hk.1 (hb3.ext hE) rfl ⟨Ext.refl _,hq.ext hE⟩) (dcp (fun v w'=>zM w' v (q1)) (fun _ _ _ _ hx h=>h.ext hx.toExt) (fun σ wx hE hk=>zBU hk.1 hb313 (CallK.of_ret (zJt hk.2.1 h2) fun v w2 hX hr=>⟨hX,hr.poly⟩)) (dcp (fun v w'=>zM w' v (p1)) (fun _ _ _ _ hx h=>h.ext hx.toExt) (fun σ wx hE hk=>zp ⟨Ext.refl _,hk.1⟩) (dcp (fun v w'=>zM w' v (q1)) (fun _ _ _ _ hx h=>h.ext hx.toExt) (fun σ wx hE hk=>zp ⟨Ext.refl _,hk.1⟩) (zAR (hK _ fun wq hE => ?_)))))))))))
 rintro v9 N9 v10 N10 v11 N11 v12 N12 v13 N13 v14 N14 v5 N5 v6 N6;refine zU ?_;replace hb1:=hb1.ext hE;have hJ:=hJe _ _ _ h0 hE;clear hE;refine zN (K5 [0,1,5,6] ?_);refine zG ?_;refine zo (X:=Nat) (fun f ρ w'=>∃ v5 v6 P Q i,Keep ρ [(0,.func (.yield l) #[] #[]),(1,.pointer (some ⟨b1,0,none⟩)),(5,v5),(6,v6)]∧zM w' v5 P∧zM w' v6 Q∧i≤c.length∧zHc f P Q=some (c.drop i)∧J i w'∧Blk w' b1 67 [SmF]) (fun f=>f) (q1.length+2) ⟨_,_,p1,q1,0,(kp rfl),N5,N6,Nat.zero_le _,by rw [List.drop_zero];exact h3,hJ,hb1⟩ ?_;clear N5 N6 h3 hJ hb1 h0 hb2 hb3 hp hq;rintro f ρ1 w1 ⟨v5,v6,P,Q,i,hk,hP5,hQ6,hil,hA,hJ,hb1⟩;have hP0:=hP5;have hQ0:=hQ6;obtain ⟨pp,pc,rfl,-,-,-⟩:=hP0;obtain ⟨qp,qc,rfl,-,-,-⟩:=hQ0;refine wpe_k _ hk ?_;clear hk ρ1;rcases f with _ | f
 · cases hA
 unfold zHc at hA;refine zA (rJ fun K=>K1 (zJ zAA rfl (K8 rfl (rm [0,1,5,6,17] K ?_))));refine K0 rfl ?_ ?_<;>intro hc
 · have hP1:P≠[]:=fun e=>by rw [e] at hc;cases hc
   clear hc;rw [if_neg hP1] at hA;obtain ⟨l2,hd0,hA⟩:∃ l2,c.drop i=P :: l2∧((Q=[]∧l2=[])∨(Q≠[]∧∃ r s t,pdiv P Q=some r∧zFO r.2 (-1)=some s∧zGD s=some t∧zHc f Q t=some l2)):=by
    split at hA
    · rename_i hQ;exact ⟨[],(Option.some.inj hA).symm,.inl ⟨hQ,rfl⟩⟩
    · rename_i hQ;obtain ⟨r,e1,hA⟩:=bind_some hA;obtain ⟨s,e2,hA⟩:=bind_some hA;obtain ⟨t,e3,hA⟩:=bind_some hA;obtain ⟨l2,e4,hA⟩:=bind_some hA;exact ⟨l2,(Option.some.inj hA).symm,.inr ⟨hQ,r,s,t,e1,e2,e3,e4⟩⟩
   obtain ⟨hd1,hd2,hd3⟩:=drop_head hd0;refine sk (zG (zA (rJ fun K=>mv (K1 (zGm rfl ?_)))));refine CallK.conv (hy i hd1 #[.slice pp P.length pc] _ hJ ⟨_,rfl,by rw [hd2];exact hP5⟩) ?_;rintro _ w3 ⟨rfl,hJ2,hKT⟩;replace hP5:=hP5.keep hKT;replace hQ6:=hQ6.keep hKT;replace hb1:=hKT _ _ _ (.inr (.inr rfl)) hb1;clear hJ hKT;have hJ:=hJ2;clear hJ2;refine K1 (zAF rfl (rm [0,1,5,6,21] K ?_));refine wcf rfl (sk (zA (zA ?_)));rcases hA with ⟨hQ1,hl2⟩ | ⟨hQ1,r,s,t,e1,e2,e3,hl2⟩
   · subst hQ1;have hend:i+1=c.length:=by
      have e:=congrArg List.length hd3;rw [hl2,List.length_drop] at e;simp at e;omega
     refine rI fun K=>K1 (zJ zAA rfl (K8 rfl (rs [0,1,5,6,24] K ?_)));refine wct rfl (zE (zY (zh (zAr (zh (zQ ?_))))));exact ⟨rfl,_,zBd rfl,by rw [← hend];exact hJ⟩
   · obtain ⟨dq,dr⟩:=r;have hQl:Q.length≠0:=fun e=>hQ1 (List.eq_nil_of_length_eq_zero e);refine rI fun K=>K1 (zJ zAA rfl (K8 rfl (rs [0,1,5,6,24] K ?_)));refine wcf (congrArg Value.bool (beq_eq_false_iff_ne.2 (by omega))) (sk (rJ fun K=>mv (K1 (zC hb254 (CallK.of_ret (zGY hP5 hQ6 e1) fun v28 w4 hE hr => ?_) rfl))));obtain ⟨da,db,rfl,-,hD⟩:=hr;replace hD:=hD.poly;replace hQ6:=hQ6.ext hE;replace hb1:=hb1.ext hE;replace hJ:=hJe _ _ _ hJ hE;clear hE hP5;refine mv (xt rfl (xt rfl (ag (ag (rm [0,1,5,6,8] K ?_)))))
     refine zAc [([(6,none)],none),([(1,none)],none),([(8,none)],none),([],none),([(33,some 1),(34,some 0)],none),([(32,some 3),(35,some 0)],none),([(31,some 5)],none),([(36,some 1)],none)] mixed (by kernel_rfl) (by kernel_rfl) (by kernel_rfl) fun K hK=>dvp (fun σ wx hE hk=>zF ⟨Ext.refl _,hk.1⟩) (dcp (fun v _=>v=SmF) (fun _ _ _ _ _ h=>h) (fun σ wx hE hk=>zD zLH hk.1 (hb1.ext hE) rfl ⟨Ext.refl _,rfl⟩) (dvp (fun σ wx hE hk=>zF ⟨Ext.refl _,hk.1⟩) (dcp (fun v w'=>IsNum w' v (-1)) (fun _ _ _ _ hx h=>h.ext hx.toExt) (fun σ wx hE hk=>zC hb38 (CallK.of_ret (zBw (n := -1) (by decide) (by decide)) fun v w2 hX hr=>⟨hX,hr⟩) rfl) (dcp (fun v w'=>zM w' v (s)) (fun _ _ _ _ hx h=>h.ext hx.toExt) (fun σ wx hE hk=>zC hb56 (CallK.of_ret (zDz (zM.of_eq hk.1 (hD.ext hE)) hk.2.1 e2) fun v w2 hX hr=>⟨hX,hr.poly⟩) rfl) (dcp (fun v w'=>zM w' v (t)) (fun _ _ _ _ hx h=>h.ext hx.toExt) (fun σ wx hE hk=>zBU hk.1 hb313 (CallK.of_ret (zJt hk.2.1 e3) fun v w2 hX hr=>⟨hX,hr.poly⟩)) (dvp (fun σ wx hE hk=>zp ⟨Ext.refl _,hk.1⟩) (dcp (fun v w'=>zM w' v (t)) (fun _ _ _ _ hx h=>h.ext hx.toExt) (fun σ wx hE hk=>zp ⟨Ext.refl _,hk.1⟩) (zAR (hK _ fun wq hE => ?_)))))))));rintro _ rfl v32 N32 _ rfl v34 N34 v35 N35 v36 N36 _ rfl v6 N6;refine zU ?_
     replace hb1:=hb1.ext hE;replace hJ:=hJe _ _ _ hJ hE;replace hQ6:=hQ6.ext hE;have N5:=hQ6;clear hE;refine zT (zV ?_);exact ⟨rfl,f,⟨_,_,Q,t,i+1,(kp rfl),N5,N6,by omega,by rw [hd3];exact hl2,hJ,hb1⟩,by omega⟩
 · have hP1:P=[]:=List.eq_nil_of_length_eq_zero (by have:=of_decide_eq_false hc;omega);clear hc;rw [if_pos hP1] at hA;have hend:i=c.length:=by
    have e:=congrArg List.length (Option.some.inj hA);rw [List.length_drop] at e;simp at e;omega
   subst hend;exact zi (zAE (zv (zP (zGw ⟨rfl,_,zBd rfl,hJ⟩))))
variable {T:TypeId} {c cu:Nat} {cs:List Value} {l:List Rat} {pv:Option Addr} {u v:Value} {w w':World}
theorem AppC.blkLt {sz:Nat} (h:AppC sz w w') (hB:Blk w c T cs) (hc:c<sz):Blk w' c T cs:=by
 rcases h with h | ⟨b,cs',h1,h2,h3⟩
 · exact hB.ext h
 · exact hB.upd h3 (by omega)
theorem zBB.le {c:List Poly} (h:zBB w v c) (hx:BlkLe w w'):zBB w' v c:=by
 obtain ⟨p,k,h1,h2,h3,h4⟩:=h;refine ⟨p,k,h1,h2,?_,h4⟩;rcases h3 with h3 | ⟨b,o,cs,e1,e2,e3,e4⟩
 · exact .inl h3
 · exact .inr ⟨b,o,cs,e1,hx _ _ _ e2,e3,fun i hi=>let ⟨u,g1,g2⟩:=e4 i hi;⟨u,g1,g2.le hx⟩⟩
theorem take_succ_p {c:List Poly} (hi:i<c.length):c.take (i+1)=c.take i++[c.getD i []]:=by
 rw [List.take_add_one];simp [hi]
theorem sturm_ok {pu:Option Addr} {nu nv cv:Nat}:Ret prog 257 #[.slice pu nu cu,.slice pv nv cv] w (fun r w'=>∃ b2 b3 b1,r = .func (.func 314) #[] #[.pointer (some ⟨b1,0,none⟩),.pointer (some ⟨b2,0,none⟩),.pointer (some ⟨b3,0,none⟩)]∧Blk w' b1 67 [SmF]∧Blk w' b2 25 [.slice pu nu cu]∧Blk w' b3 25 [.slice pv nv cv]∧w.heap.size≤b1∧w.heap.size≤b2∧w.heap.size≤b3):=by
 refine J0 7 func257 rfl (rj fun K => ?_);refine K1 (zk fun b1 w1 hb hE hB1 hs => ?_);have hgb1:w.heap.size≤b1:=by rw [hb];exact E0.size
 replace E0:=E0.trans hE;clear hE hs hb;refine K1 (zk fun b2 w2 hb hE hB2 hs => ?_);have hgb2:w.heap.size≤b2:=by rw [hb];exact E0.size
 have ne_b1_b2:b1≠b2:=by have:=hB1.lt;omega
 replace E0:=E0.trans hE;replace hB1:=hB1.ext hE;clear hE hs hb;refine ag (rm [2,3] K ?_);refine rj fun K => ?_;refine K1 (zK zero67 fun b3 w3 hb hE hB3 hs => ?_);have hgb3:w.heap.size≤b3:=by rw [hb];exact E0.size
 have ne_b1_b3:b1≠b3:=by have:=hB1.lt;omega
 have ne_b2_b3:b2≠b3:=by have:=hB2.lt;omega
 replace E0:=E0.trans hE;replace hB1:=hB1.ext hE;replace hB2:=hB2.ext hE;clear hE hs hb;refine K1 (zZ size67 rfl hB3 rfl (Nat.le_of_ble_eq_true rfl) (by decide) rfl fun w4 hU hN => ?_);replace E0:=E0.upd hU hgb3;replace hB1:=hB1.upd hU ne_b1_b3;replace hB2:=hB2.upd hU ne_b2_b3;clear hB3;have hB3:=hN;clear hN hU;refine rm [2,3,5] K ?_;refine rj fun K=>K1 (zBL (ag (rm [4] K ?_)));exact zE (en rfl E0 ⟨b1,b2,b3,rfl,hB3,hB1,hB2,hgb3,hgb1,hgb2⟩)
theorem zM.len (h:zM w v l):l.length≤4096:=by obtain ⟨p,c,_,_,_,h⟩:=h;exact h
theorem AppC.size {sz:Nat} (h:AppC sz w w'):w.heap.size≤w'.heap.size:=by
 rcases h with h | ⟨b,cs',h1,h2,h3⟩
 · exact h.size
 · have:=h3.size;omega
theorem zFr {p q:Poly} {c:List Poly} (hp:zM w u p) (hq:zM w v q) (h:chain p q=some c):Ret prog 171 #[u,v] w (fun r w'=>zBB w' r c):=by
 have hcl:c.length≤4098:=by have:=(zDA h).1;have:=hq.len;omega
 have hp0:=hp;have hq0:=hq;obtain ⟨pu,cu,rfl,-⟩:=hp0;obtain ⟨pv,cv,rfl,-⟩:=hq0;have E0:Ext w w:=Ext.refl w;refine zFb 16 func171 rfl rfl (Nat.le_of_ble_eq_true rfl) (rj fun K=>ag (rm [0,1] K ?_));refine rj fun K => ?_;refine K1 (zK zero240 fun b1 w1 hb hE hB1 hs => ?_);have hgb1:w.heap.size≤b1:=by rw [hb];exact E0.size
 replace E0:=E0.trans hE;replace hp:=hp.ext hE;replace hq:=hq.ext hE;clear hE hs hb;refine rm [0,1,5] K ?_;refine zA (rJ fun K=>mv (K1 (zC hb257 (CallK.of_ret sturm_ok fun v9 w9 hE hr => ?_) rfl)));obtain ⟨c2,c3,c1,rfl,hC1,hC2,hC3,hg1,hg2,hg3⟩:=hr;have hx1:b1≠c1:=by have:=hB1.lt;omega
 have hx2:b1≠c2:=by have:=hB1.lt;omega
 have hx3:b1≠c3:=by have:=hB1.lt;omega
 replace E0:=E0.trans hE;replace hB1:=hB1.ext hE;replace hp:=hp.ext hE;replace hq:=hq.ext hE;clear hE;refine rm [5,9] K ?_;refine zG ?_;obtain ⟨sz,hsz⟩:∃ sz,w9.heap.size=sz:=⟨_,rfl⟩;have hlb1:b1<sz:=by have:=hB1.lt;omega
 have hl1:c1<sz:=by have:=hC1.lt;omega
 have hl2:c2<sz:=by have:=hC2.lt;omega
 have hl3:c3<sz:=by have:=hC3.lt;omega
 have hwsz:w.heap.size≤sz:=by have:=E0.size;omega
 refine zIZ rfl rfl hb314 (by decide) (fun i w'=>Ext w w'∧sz≤w'.heap.size∧(∃ va,Blk w' b1 240 [va]∧AccC sz w' va (c.take i))∧Blk w' c1 67 [SmF]∧Blk w' c2 25 [.slice pu p.length cu]∧Blk w' c3 25 [.slice pv q.length cv]∧zM w' (.slice pu p.length cu) p∧zM w' (.slice pv q.length cv) q) KeepT c.length (encP c)
  (fun i args w1 h=>by obtain ⟨v,e,_⟩:=h;rw [e];rfl)
  (fun w1 hE=>⟨E0.trans hE,by have:=hE.size;omega,⟨_,hB1.ext hE,by rw [List.take_zero];exact AccC.nil⟩,hC1.ext hE,hC2.ext hE,hC3.ext hE,hp.ext hE,hq.ext hE⟩)
  (fun i w1 w2 hI hE=>by obtain ⟨g1,g2,⟨va,g3,g4⟩,g5,g6,g7,g8,g9⟩:=hI;exact ⟨g1.trans hE,by have:=hE.size;omega,⟨va,g3.ext hE,g4.ext hE⟩,g5.ext hE,g6.ext hE,g7.ext hE,g8.ext hE,g9.ext hE⟩)
  (fun i l w1 w2 hl hI hO=>by obtain ⟨g1,g2,⟨va,g3,g4⟩,g5,g6,g7,g8,g9⟩:=hI;exact ⟨g1.oth hO (by omega),by rw [hO.size];exact g2,⟨va,g3.oth hO,g4.le hO.le⟩,g5.oth hO,g6.oth hO,g7.oth hO,g8.le hO.le,g9.le hO.le⟩)
  (fun l J hJe hJi hy w1 hE h0=>by obtain ⟨g1,g2,-,g5,g6,g7,g8,g9⟩:=hJi 0 w1 h0;exact sturm2_ok h l J hJe hy w1 h0 g5 g6 g7 g8 g9)
  ?_ ?_
 clear E0 hB1 hC1 hC2 hC3 hp hq
 · rintro l i args w1 hl hi ⟨E0,hs1,⟨va,hB1,hA⟩,hC1,hC2,hC3,hp,hq⟩ ⟨vi,rfl,hvi⟩;refine wpe_k [(5,.pointer (some ⟨b1,0,none⟩)),(10,vi)] (kp rfl) ?_;refine K6 fun K=>ag (rl K ⟨rfl,rfl,NC.refl _,fun w5 hO => ?_⟩);replace E0:=E0.oth hO (by omega);replace hs1:sz≤w5.heap.size:=(by rw [hO.size];exact hs1);replace hB1:=hB1.oth hO;replace hA:=hA.le hO.le;replace hC1:=hC1.oth hO;replace hC2:=hC2.oth hO;replace hC3:=hC3.oth hO;replace hp:=hp.le hO.le;replace hq:=hq.le hO.le;replace hvi:=hvi.le hO.le;have hKT:=KeepT.oth hO;clear hO;refine zG (K6 fun K=>K1 (zD zLu rfl hB1 rfl (mv ?_)));refine K1 (zR (cs:=[vi]) zEW info25' (by decide) (by decide) (by obtain ⟨pp,pc,rfl,-⟩:=hvi;kernel_rfl) fun bb w10 hb hE hBb hs => ?_);have hNC:=NC.ext hE;replace hKT:=hKT.trans (KeepT.ext hE);have hs2:=hE.size;replace hs1:sz≤w10.heap.size:=by omega
   clear hs2;replace E0:=E0.trans hE;replace hB1:=hB1.ext hE;replace hA:=hA.ext hE;replace hC1:=hC1.ext hE;replace hC2:=hC2.ext hE;replace hC3:=hC3.ext hE;replace hp:=hp.ext hE;replace hq:=hq.ext hE;replace hvi:=hvi.ext hE;clear hE hb hs;refine K1 (zEc hA rfl hBb hvi (by rw [List.length_take];omega) hs1 fun vb w11 hX hA2 => ?_);replace hKT:=hKT.trans hX.keep;replace hNC:=hNC.trans hX.nc;have hs2:=hX.size;replace hs1:sz≤w11.heap.size:=by omega
   clear hs2;replace E0:=hX.ext hwsz E0;replace hB1:=hX.blk hB1 (by decide);replace hC1:=hX.blk hC1 (by decide);replace hC2:=hX.blkLt hC2 hl2;replace hC3:=hX.blkLt hC3 hl3;replace hp:=hp.keep hX.keep;replace hq:=hq.keep hX.keep;clear hX hA hBb hvi;have hA3:=hA2;obtain ⟨ap,ac,rfl,-⟩:=hA3;refine K1 (zZ size240 rfl hB1 rfl (Nat.le_of_ble_eq_true rfl) (by decide) rfl fun w12 hU hN => ?_);replace hKT:=hKT.trans (KeepT.upd hU hB1 (by decide) (by decide) (by decide));replace hNC:=hNC.trans (NC.upd hU hB1);replace hs1:sz≤w12.heap.size:=by have:=hU.size;omega
   replace E0:=E0.upd hU hgb1;have hA:=hA2.upd hU hB1 (by decide) (by decide) (by decide);replace hC1:=hC1.upd hU (Ne.symm hx1);replace hC2:=hC2.upd hU (Ne.symm hx2);replace hC3:=hC3.upd hU (Ne.symm hx3);replace hp:=hp.updT hU hB1 (by decide) (by decide);replace hq:=hq.updT hU hB1 (by decide) (by decide);clear hB1 hA2 hU;have hB1:=hN;clear hN;refine rl K (zT ?_);refine ⟨rfl,hNC,fun w8 hO=>⟨⟨E0.oth hO (by omega),by rw [hO.size];exact hs1,⟨_,hB1.oth hO,(by rw [take_succ_p hi];exact hA.le hO.le)⟩,hC1.oth hO,hC2.oth hO,hC3.oth hO,hp.le hO.le,hq.le hO.le⟩,hKT.trans (KeepT.oth hO)⟩⟩
 · rintro D w2 hD ⟨E0,hs1,⟨va,hB1,hA⟩,hC1,hC2,hC3,hp,hq⟩ hDf;rw [List.take_length] at hA;refine zT (zN (rj fun K=>K1 (zD zLu rfl hB1 rfl (ag (rm [4] K ?_)))));refine zE (zQ ?_);exact ⟨D,_,rfl,hDf,fun w2 hO=>⟨zm rfl rfl,E0.oth hO (by omega),(hA.chain (by have:=(zDA h).1;have:=hq.len;omega)).le hO.le⟩⟩
theorem zNr {p:Poly} {c:List Poly} (hp:zM w v p) (h:own p=some c):Ret prog 255 #[v] w (fun r w'=>zBB w' r c):=by
 obtain ⟨s,h1,h⟩:=bind_some h;obtain ⟨d,h2,h3⟩:=bind_some h;refine J0 9 func255 rfl (rj fun K=>ag (rm [0] K ?_));refine rJ fun K=>K1 (j0 E0 hb312 (simple_ok hp h1) fun v4 w2 E0 N4=>ag (rm [0] K ?_));refine rJ fun K=>mv ?_;have N4:=N4.poly;refine K1 (j1 E0 N4.ext hb256 (zFk N4 h2) fun v7 w2 E0 N4 N7=>K1 (j0 E0 hb171 (zFr N4 N7.poly h3) fun v8 w2 E0 N8=>ag (rm [2] K ?_)));exact zE (en rfl E0 N8)
variable {b:Nat} {cv:Value} {f:FuncId}
def longP (p:Poly):Bool:=decide (41<(trim p).length)
def idxL {α:Type} (pr:α→Bool):List α→Nat→Int
 | [],_ => -1
 | p :: l,i=>if pr p then (i:Int) else idxL pr l (i+1)
theorem zFF {α:Type} {pr:α→Bool}:∀ {l:List α} {i:Nat},(idxL pr l i = -1∧l.any pr=false)∨((i:Int)≤idxL pr l i∧idxL pr l i<i+l.length∧l.any pr=true)
 | [],i => .inl ⟨rfl,rfl⟩
 | p :: l,i=>by
  unfold idxL;by_cases h:pr p=true
  · rw [if_pos h];exact .inr ⟨Int.le_refl _,by simp;omega,by simp [h]⟩
  · rw [if_neg h];rcases @zFF α pr l (i+1) with ⟨e1,e2⟩ | ⟨e1,e2,e3⟩
    · exact .inl ⟨e1,by simp [h,e2]⟩
    · exact .inr ⟨by omega,by simp;omega,by simp [h,e3]⟩
theorem zIn {l:List Poly} (h:i<l.length):l.drop i=l.getD i [] :: l.drop (i+1):=by
 rw [List.drop_eq_getElem_cons h];simp [h]
theorem zM.chain1 {p:Poly} (h:zM w v p) (hB:Blk w b 25 [v]):zBB w (.slice (some ⟨b,0,none⟩) 1 1) [p] :=
 ⟨_,1,rfl,Nat.le_refl _,.inr ⟨b,0,_,rfl,hB,by simp,fun i hi=>by
  obtain rfl:i=0:=by simp at hi;omega
  exact ⟨v,rfl,h⟩⟩,by simp⟩
theorem zDC:∀ {l:List Int} {last n:Int},n≤flipL l last n∧flipL l last n≤n+l.length
 | [],last,n=>by simp [flipL]
 | s :: l,last,n=>by
  unfold flipL;split
  · have := @zDC l last n;simp;omega
  · split
    · have := @zDC l s (n+1);simp;omega
    · have := @zDC l s n;simp;omega
theorem zGv {x:Rat} {c:List Poly} {a:Int} (h:zGu x c=some a):0≤a∧a≤c.length:=by
 obtain ⟨l,hl,rfl⟩:=map_some h;have := @zDC l 0 0;rw [zEI hl] at this;omega
theorem zCM {m:Bool} {c:List Poly}:0≤zBi m c∧zBi m c≤c.length:=by
 have := @zDC (c.map (endS m)) 0 0;simp at this;unfold zBi;omega
theorem zCh {x y:Rat} {z:Int} (h:rcmp x y=some z):rroom x y=true∧z=rcmpI x y:=by
 unfold rcmp at h;split at h
 · exact ⟨by assumption,(Option.some.inj h).symm⟩
 · cases h
theorem long1_ok {p:Poly} (hp:zM w v p):Ret prog 310 #[v] w (fun u _=>u = .bool (longP p)):=by
 refine J0 6 func310 rfl (rj fun K=>ag (rm [0] K ?_));refine rJ fun K=>K1 (j0 E0 hb18 (zCK hp) fun vi w2 E0 hr => ?_);subst hr;refine K8 rfl (ag (rm [2] K ?_));exact zE (en rfl E0 (congrArg Value.bool (decide_eq_decide.2 (by omega))))
theorem Index_ok {c:List Poly} {pr:Poly→Bool} (hc:zBB w cv c) (hf:zAq prog f) (hsig:∀ i,i<c.length→∀ (w':World) (v:Value),Ext w w'→zM w' v (c.getD i [])→Ret prog f #[v] w' (fun u _=>u = .bool (pr (c.getD i [])))):Ret prog 349 #[cv,.func (.func f) #[] #[]] w (fun u _=>u = .int .i64 (idxL pr c 0)):=by
 obtain ⟨cp,cc,rfl,hcc,hC,hcl⟩:=hc;have E0:Ext w w:=Ext.refl w;refine J0 19 func349 rfl (rj fun K=>ag (rm [0,1] K ?_));refine zA (rJ fun K=>K1 (zJ zHR rfl (mv (rm [0,1,7,8] K ?_))));refine zG (zo (X:=Nat) (fun i ρ w'=>Keep ρ [(0,.slice cp c.length cc),(1,.func (.func f) #[] #[]),(7,.int .i64 (c.length:Nat)),(8,.int .i64 (i:Nat))]∧i≤c.length∧Ext w w'∧idxL pr (c.drop i) i=idxL pr c 0) (fun i=>c.length-i) 0 ⟨(kp rfl),Nat.zero_le _,E0,rfl⟩ ?_);clear E0;rintro i ρ1 w1 ⟨hk,hil,E0,hI⟩;refine wpe_k _ hk ?_;clear hk ρ1;refine rj fun K=>K8 rfl (rm [0,1,7,8,9] K ?_);refine zA ?_;refine K0 rfl ?_ ?_<;>intro hc
 · have hlt:i<c.length:=t_lt hc;clear hc;have hC1:=hC.ext E0;rw [zIn (by omega),idxL] at hI;refine sk (zA (zG (rJ fun K=>ag (rm [0,1,5,7,8] K ?_))));refine rJ fun K=>mv (mv (K1 (zFc hC1 rfl rfl hlt (K1 (zGj hC1 hlt rfl fun v15 N15=>K1 (zBU rfl hf (CallK.of_ret (hsig i hlt _ v15 E0 N15) fun v19 w2 hE hr => ?_)))))));subst hr;replace E0:=E0.trans hE;clear hE N15 hC1;refine rm [0,1,5,7,8,16] K ?_;refine K0 rfl ?_ ?_<;>intro hc
   · have hcc2:pr (c.getD i [])=true:=hc;clear hc;rw [if_pos hcc2] at hI;refine rJ fun K=>ag (rm [0,1,4,7,8] K ?_);refine zE (zh (zY (zAr (zh (zY (zQ ?_))))));exact ⟨rfl,_,zm rfl rfl,E0,by rw [← hI];rfl⟩
   · have hcc2:pr (c.getD i [])=false:=hc;clear hc;rw [if_neg (by rw [hcc2];decide)] at hI;exact zz (zT (zN (K6 fun K=>K8 rfl (mv (rl K (zV (⟨rfl,i+1,⟨⟨rfl,rfl,rfl,rfl,rfl,rfl,rfl,congrArg (Value.int .i64) (zAD (by omega)),trivial⟩,by omega,E0,hI⟩,by omega⟩)))))))
 · have hge:=f_lt hc;obtain rfl:i=c.length:=by omega
   clear hc;rw [List.drop_eq_nil_of_le (by omega),idxL] at hI;refine zi (zAE (zv (zP (zN (rj fun K=>ag (rm [0,1,4,7,8] K ?_))))));refine zE (zQ ?_);exact ⟨rfl,_,zm rfl rfl,E0,by rw [← hI];rfl⟩
theorem Contains_ok {c:List Poly} {pr:Poly→Bool} (hc:zBB w cv c) (hf:zAq prog f) (hsig:∀ i,i<c.length→∀ (w':World) (v:Value),Ext w w'→zM w' v (c.getD i [])→Ret prog f #[v] w' (fun u _=>u = .bool (pr (c.getD i [])))):Ret prog 309 #[cv,.func (.func f) #[] #[]] w (fun u _=>u = .bool (c.any pr)):=by
 refine J0 9 func309 rfl (rj fun K=>ag (rm [0,1] K ?_));refine rJ fun K=>mv (K1 (j0 E0 hb349 (Index_ok hc hf hsig) fun vi w2 E0 hr => ?_));subst hr;refine K8 rfl (ag (rm [4] K ?_));refine zE (zQ ?_);exact ⟨rfl,_,zm rfl rfl,E0,congrArg Value.bool (by
  rcases @zFF _ pr c 0 with ⟨e1,e2⟩ | ⟨e1,e2,e3⟩
  · rw [e2];exact decide_eq_false (by omega)
  · rw [e3];exact decide_eq_true (by omega))⟩
theorem long_ok {c:List Poly} (hc:zBB w cv c):Ret prog 252 #[cv] w (fun u _=>u = .bool (c.any longP)):=by
 refine J0 5 func252 rfl (rj fun K=>ag (rm [0] K ?_));refine rJ fun K=>K1 (j0 E0 hb309 (Contains_ok (pr:=longP) hc hb310 fun i hi w2 v hE hv=>long1_ok hv) fun vi w2 E0 hr => ?_);subst hr;refine ag (rm [2] K ?_);exact zE (en rfl E0 rfl)
theorem zJY {p:Poly} (hp:zM w v p):Ret prog 165 #[v] w (fun u _=>u = .int .i64 (asked p)):=by
 refine J0 11 func165 rfl (rj fun K=>ag (rm [0] K ?_));refine zA (zG (rj fun K=>mv ?_));refine K1 (zR (cs:=[v]) zEW info25' (by decide) (by decide) (by obtain ⟨pp,pc,rfl,-⟩:=hp;kernel_rfl) fun bb w10 hb hE hBb hs => ?_);replace E0:=E0.trans hE;replace hp:=hp.ext hE;clear hE hb hs;refine K1 (j1 E0 hp.ext hb252 (long_ok (hp.chain1 hBb)) fun vi w2 E0 hp hr => ?_);subst hr;refine ag (rm [0,3] K ?_);refine K0 rfl ?_ ?_<;>intro hc
 · have h41:41<(trim p).length:=by have h1:=show ([p].any longP)=true from hc;simpa [longP] using h1
   clear hc;refine rj fun K=>ag (rm [2] K ?_);refine zE (zh (zY (zQ ?_)));exact ⟨rfl,_,zm rfl rfl,E0,by rw [asked,if_pos h41];rfl⟩
 · have h41:¬ 41<(trim p).length:=by have h1:=show ([p].any longP)=false from hc;simp [longP] at h1;omega
   clear hc;refine rJ fun K=>K1 (j0 E0 hb18 (zCK hp) fun vi w2 E0 hr => ?_);subst hr;refine K8 rfl (ag (rm [7] K ?_));refine K0 rfl ?_ ?_<;>intro hc
   · have h0:trim p=[]:=List.eq_nil_of_length_eq_zero (by have:=of_decide_eq_true hc;omega);clear hc;refine rj fun K=>ag (rm [2] K ?_);refine zE (zh (zY (zQ ?_)));exact ⟨rfl,_,zm rfl rfl,E0,by rw [asked,if_neg h41,if_pos h0];rfl⟩
   · have h0:trim p≠[]:=fun e=>by rw [e] at hc;cases hc
     clear hc;refine zz (zT (zN (rj fun K=>ag (rm [2] K ?_))));refine zE (zQ ?_);exact ⟨rfl,_,zm rfl rfl,E0,by rw [asked,if_neg h41,if_neg h0];rfl⟩
variable {N t:Nat} {P:Program} {fn:Func} {u1 u2:Value} {ρ:Env}
theorem zEA (p:Poly):asked p=0∨asked p=3∨asked p=8:=by
 unfold asked;split
 · exact .inr (.inl rfl)
 · split
   · exact .inr (.inr rfl)
   · exact .inl rfl
theorem zCZ {u s:Nat} (h:fn.results = #[.tmp t,.tmp u,.tmp s]) (hd:(dom ρ).contains t=true) (hu:(dom ρ).contains u=true) (hs:(dom ρ).contains s=true):Gives P fn N ρ w (.tuple #[look1 ρ t,look1 ρ u,look1 ρ s]):=fun a hf=>by
 rw [show (results fn a.tmps).run P w = .ok (.tuple #[a.tmps.getD t undef,a.tmps.getD u undef,a.tmps.getD s undef]) w from by simp [results,h],hf.at_ t (by simpa using hd),hf.at_ u (by simpa using hu),hf.at_ s (by simpa using hs)]
theorem zNq {p:Poly} {c:List Poly} (h:own p=some c):∀ i,i<c.length→c.getD i []≠[]:=by
 obtain ⟨s,_,h⟩:=bind_some h;obtain ⟨d,_,h⟩:=bind_some h;exact (zDA h).2
theorem zBB.len {c:List Poly} (h:zBB w v c):c.length≤8192:=by obtain ⟨_,_,_,_,_,h⟩:=h;exact h
theorem Count_ok {p:Poly} {x y:Rat} {n:Int×Int} (hp:zM w v p) (hx:IsNum w u1 x) (hy:IsNum w u2 y) (h:count p x y=some n):Ret prog 178 #[v,u1,u2] w (fun r _=>r = .tuple #[.int .i64 n.1,.int .i64 n.2]):=by
 have hx0:=hx;have hy0:=hy;obtain ⟨xn,xd,rfl,hxn,hxd⟩:=hx0;obtain ⟨yn,yd,rfl,hyn,hyd⟩:=hy0;refine J0 27 func178 rfl (rj fun K => ?_);refine K1 (zk fun b1 w1 hb hE hB1 hs => ?_);have hgb1:w.heap.size≤b1:=by rw [hb];exact E0.size
 replace E0:=E0.trans hE;replace hp:=hp.ext hE;replace hx:=hx.ext hE;replace hy:=hy.ext hE;clear hE hs hb;refine K1 (zk fun b2 w2 hb hE hB2 hs => ?_);have hgb2:w.heap.size≤b2:=by rw [hb];exact E0.size
 have ne_b1_b2:b1≠b2:=by have:=hB1.lt;omega
 replace E0:=E0.trans hE;replace hp:=hp.ext hE;replace hx:=hx.ext hE;replace hy:=hy.ext hE;replace hB1:=hB1.ext hE;clear hE hs hb;refine ag (ag (rm [0,4,5] K ?_));refine zA ?_;have hNX:NumAt b1 x _:=⟨_,hB1,rfl,hx⟩;have hNY:NumAt b2 y _:=⟨_,hB2,rfl,hy⟩;refine rI fun K=>K1 (j7 E0 hp.ext hx.ext hy.ext hB1.ext hB2.ext hNX.ext hNY.ext hb165 (zJY hp) fun vi w2 E0 hp hx hy hB1 hB2 hNX hNY hr => ?_);subst hr;refine ag (rs [0,4,5,8] K ?_);refine zA (zA ?_);have hS:(asked p=0∧∃ z,rcmp x y=some z∧rroom x y=true∧0<rcmpI x y∧some ((0,7):Int×Int)=some n)∨(asked p=0∧∃ z,rcmp x y=some z∧rroom x y=true∧¬ 0<rcmpI x y∧((own p).bind fun c=>(zGu x c).bind fun a=>(zGu y c).bind fun b=>some (a-b,(0:Int)))=some n)∨asked p=3∨asked p=8:=by
  rcases zEA p with e | e
  · rw [count,if_neg (by simp [e])] at h;obtain ⟨z,hz0,h⟩:=bind_some h;obtain ⟨hrr,rfl⟩:=zCh hz0;by_cases hz:0<rcmpI x y
    · rw [if_pos hz] at h;exact .inl ⟨e,_,hz0,hrr,hz,h⟩
    · rw [if_neg hz] at h;exact .inr (.inl ⟨e,_,hz0,hrr,hz,h⟩)
  · exact .inr (.inr e)
 rcases hS with ⟨e,hS⟩ | ⟨e,hS⟩ | e | e
 · obtain ⟨z,hz0,hrr,hz,h⟩:=hS;rw [e];obtain rfl:=Option.some.inj h;refine rI fun K=>K8 rfl (mv (K2 (zL rfl hNX fun v14 N14=>K2 (zL rfl hNY fun v15 N15=>K2 (j7 E0 hp.ext hx.ext hy.ext hB1.ext hB2.ext hNX.ext hNY.ext hb73 (zCn N14 N15 hrr) fun vi w2 E0 hp hx hy hB1 hB2 hNX hNY hr => ?_)))));subst hr;clear N14 N15;refine K2 (zH rfl rfl rfl (pc0 rfl (rs [0,4,5,8,18] K ?_)));refine wct (congrArg Value.bool (decide_eq_true hz)) (K6 fun K=>ag (rs [0,4,5,8] K ?_));refine zA (rJ fun K=>K8 rfl (rm [0,4,5,8,20] K ?_));refine wct rfl (rJ fun K=>ag (ag (rm [6,7] K ?_)));exact zE (zY (zQ ⟨rfl,_,zn rfl rfl rfl,E0,rfl⟩))
 · obtain ⟨z,hz0,hrr,hz,h⟩:=hS;rw [e];obtain ⟨c,h1,h⟩:=bind_some h;obtain ⟨a,h2,h⟩:=bind_some h;obtain ⟨b,h3,h⟩:=bind_some h;obtain rfl:=Option.some.inj h;refine rI fun K=>K8 rfl (mv (K2 (zL rfl hNX fun v14 N14=>K2 (zL rfl hNY fun v15 N15=>K2 (j7 E0 hp.ext hx.ext hy.ext hB1.ext hB2.ext hNX.ext hNY.ext hb73 (zCn N14 N15 hrr) fun vi w2 E0 hp hx hy hB1 hB2 hNX hNY hr => ?_)))));subst hr;clear N14 N15;refine K2 (zH rfl rfl rfl (pc0 rfl (rs [0,4,5,8,18] K ?_)));refine wcf (congrArg Value.bool (decide_eq_false hz)) (sk (zA (rJ fun K=>K8 rfl (rm [0,4,5,8,20] K ?_))));refine wcf rfl (sk (zA (zAc [([(0,none)],none),([(22,some 0)],none),([(4,none)],none),([(5,none)],none),([(23,some 2),(24,some 1),(25,some 0)],none),([(26,some 0)],none),([],none)] mixed (by kernel_rfl) (by kernel_rfl) (by kernel_rfl) fun K hK=>dvp (fun σ wx hE hk=>zF ⟨Ext.refl _,hk.1⟩) (dcp (fun v w'=>zBB w' v c) (fun _ _ _ _ hx h=>h.ext hx.toExt) (fun σ wx hE hk=>zC hb255 (CallK.of_ret (zNr (zM.of_eq hk.1 (hp.ext hE)) h1) fun v w2 hX hr=>⟨hX,hr⟩) rfl) (dcp (fun v w'=>IsNum w' v x) (fun _ _ _ _ hx h=>h.ext hx.toExt) (fun σ wx hE hk=>zL hk.1 (hNX.ext hE) fun v h=>⟨Ext.refl _,h⟩) (dcp (fun v w'=>IsNum w' v y) (fun _ _ _ _ hx h=>h.ext hx.toExt) (fun σ wx hE hk=>zL hk.1 (hNY.ext hE) fun v h=>⟨Ext.refl _,h⟩) ?_))))))
   refine dcp (fun v _=>v = .int .i64 (a-b)) (fun _ _ _ _ _ h=>h) (fun σ wx hE hk=>(by have hl:=hk.1.len;have hba:=zGv h2;have hbb:=zGv h3;exact zC hb260 (CallK.of_ret (between_ok hk.1 hk.2.1 hk.2.2.1 h2 h3) fun v w2 hX hr=>⟨hX,by rw [hr,zAG (by omega) (by omega)]⟩) rfl)) ?_;refine dcp (fun v _=>v = .int .i64 (a-b)) (fun _ _ _ _ _ h=>h) (fun σ wx hE hk=>zp ⟨Ext.refl _,hk.1⟩) (dvp (fun σ wx hE hk=>zp ⟨Ext.refl _,rfl⟩) (zAR (hK _ fun wq hE => ?_)));rintro _ rfl v23 N23 v24 N24 v25 N25 v26 N26 v6 N6 _ rfl;refine zU ?_;replace E0:=E0.trans hE;replace hp:=hp.ext hE;replace hx:=hx.ext hE;replace hy:=hy.ext hE;replace hB1:=hB1.ext hE;replace hB2:=hB2.ext hE;clear hE;refine zN (K5 [6,7] ?_);refine zE (zQ ?_);exact ⟨rfl,_,zn rfl rfl rfl,E0,by subst N6;rfl⟩
 · rw [e];rw [count,if_pos (by simp [e]),e] at h;obtain rfl:=Option.some.inj h;refine rI fun K=>K8 rfl (mv (K3 (K3 (K3 (K3 (pc0 rfl (rs [0,4,5,8,18] K ?_)))))));refine wcf rfl (sk (zA (rJ fun K=>K8 rfl (rm [0,4,5,8,20] K ?_))));refine wct rfl (rJ fun K=>ag (ag (rm [6,7] K ?_)));exact zE (zY (zQ ⟨rfl,_,zn rfl rfl rfl,E0,rfl⟩))
 · rw [e];rw [count,if_pos (by simp [e]),e] at h;obtain rfl:=Option.some.inj h;refine rI fun K=>K8 rfl (mv (K3 (K3 (K3 (K3 (pc0 rfl (rs [0,4,5,8,18] K ?_)))))));refine wcf rfl (sk (zA (rJ fun K=>K8 rfl (rm [0,4,5,8,20] K ?_))));refine wct rfl (rJ fun K=>ag (ag (rm [6,7] K ?_)));exact zE (zY (zQ ⟨rfl,_,zn rfl rfl rfl,E0,rfl⟩))
theorem times_ok {p:Poly} {T:Int} (hp:zM w v p) (h:times p=some T):Ret prog 169 #[v] w (fun r _=>r = .int .i64 T ∧ -40000000≤T∧T≤40000000):=by
 have hpl:=hp.len;unfold times at h;have E0:Ext w w:=Ext.refl w;refine J0 24 func169 rfl (rj fun K=>ag (rm [0] K ?_));refine rj fun K=>ag (rm [0,3] K ?_);refine zA (zG (zo (X:=Nat) (fun f ρ w'=>∃ v0 P n,Keep ρ [(0,v0),(3,.int .i64 n)]∧zM w' v0 P∧Ext w w'∧zMU f P n=some T∧f≤4097 ∧ -(((4097-f:Nat):Int)*8192)≤n∧n≤((4097-f:Nat):Int)*8192) (fun f=>f) (p.length+1) ⟨v,p,0,(kp rfl),hp,E0,h,by omega,by omega,by omega⟩ ?_));clear E0 hp h hpl;rintro f ρ1 w1 ⟨v0,P,n,hk,hp,E0,h,hf,hn1,hn2⟩;refine wpe_k _ hk ?_;clear hk ρ1;rcases f with _ | f
 · cases h
 unfold zMU at h;refine zA (rJ fun K=>K1 (j1 E0 hp.ext hb18 (zCK hp) fun vi w2 E0 hp hr => ?_));subst hr;refine K8 rfl (rm [0,3,7] K ?_);refine K0 rfl ?_ ?_<;>intro hc
 · have h0:¬ (trim P).length≤1:=by have:=of_decide_eq_true hc;omega
   clear hc;rw [if_neg h0] at h;obtain ⟨c,h1,h⟩:=bind_some h;obtain ⟨d,h2,h⟩:=bind_some h;obtain ⟨g,h3,h⟩:=bind_some h;have b1 := @zCM true c;have b2 := @zCM false c;refine sk (zG (rJ fun K=>K1 (j1 E0 hp.ext hb255 (zNr hp h1) fun v9 w2 E0 hp hC => ?_)));have hCl:=hC.len;refine ag (rm [0,3,4] K ?_);refine rJ fun K=>mv (K1 (j2 E0 hp.ext hC.ext hb173 (zGZ) fun v12 w2 E0 hp hC hr => ?_));obtain ⟨m1,rfl,hM1⟩:=hr;refine K1 (j2 E0 hp.ext hC.ext hb172 (zCv hC hM1 (zNq h1)) fun vi w2 E0 hp hC hr => ?_);subst hr;refine mv (K1 (j2 E0 hp.ext hC.ext hb173 (zGZ) fun v12 w2 E0 hp hC hr => ?_));obtain ⟨m2,rfl,hM2⟩:=hr;refine K1 (j2 E0 hp.ext hC.ext hb172 (zCv hC hM2 (zNq h1)) fun vi w2 E0 hp hC hr => ?_);subst hr;refine K1 (zH (v := .int .i64 (zBi true c-zBi false c)) rfl rfl (congrArg (fun z=>some (Value.int .i64 z)) (zAG (by omega) (by omega))) (K1 (zH (v := .int .i64 (n+(zBi true c-zBi false c))) rfl rfl (congrArg (fun z=>some (Value.int .i64 z)) (zAG (by omega) (by omega))) (ag (rm [0,3] K ?_)))));exact rI fun K=>mv (K1 (j1 E0 hp.ext hb256 (zFk hp h2) fun v21 w2 E0 hp N21=>K1 (j0 E0 hb168 (zEi hp N21.poly h3) fun v22 w2 E0 N22=>ag (rl K (zT (zV (⟨rfl,f,⟨_,g,_,(kp rfl),N22.poly,E0,h,by omega,by omega,by omega⟩,by omega⟩)))))))
 · have h0:(trim P).length≤1:=by have:=of_decide_eq_false hc;omega
   clear hc;rw [if_pos h0] at h;obtain rfl:=Option.some.inj h;refine zi (zAE (zv (zP (zN (rJ fun K=>ag (rm [2,3] K ?_))))));exact zE (en rfl E0 ⟨rfl,by omega,by omega⟩)
theorem zAu (n:Int):(0≤n→0≤half2 n∧half2 n≤n)∧(n≤0→half2 n≤0∧n≤half2 n):=by
 unfold half2;refine ⟨fun h => ?_,fun h => ?_⟩
 · rw [Int.tdiv_eq_ediv_of_nonneg h];omega
 · obtain ⟨m,rfl⟩:∃ m:Int,n = -m:=⟨-n,by omega⟩;rw [Int.neg_tdiv,Int.tdiv_eq_ediv_of_nonneg (by omega)];omega
theorem zLR {p:Poly} {R:Int×Int×Int} (hp:zM w v p) (h:routh p=some R):Ret prog 72 #[v] w (fun r _=>r = .tuple #[.int .i64 R.1,.int .i64 R.2.1,.int .i64 R.2.2] ∧ -1000000000≤R.1+R.2.1∧R.1+R.2.1≤1000000000):=by
 refine J0 76 func72 rfl (rj fun K=>ag (ag (ag (rm [0] K ?_))));refine zA (rJ fun K=>K1 (j1 E0 hp.ext hb165 (zJY hp) fun vi w2 E0 hp hr => ?_));subst hr;refine ag (rm [0,5] K ?_);refine zA ?_;rcases zEA p with e | e | e
 · rw [e];rw [routh,if_neg (by simp [e])] at h;obtain ⟨RI,hR0,rfl⟩:=map_some h;clear h;unfold zNs at hR0;obtain ⟨⟨re,im⟩,h1,h⟩:=bind_some hR0;clear hR0;obtain ⟨g,h2,h⟩:=bind_some h;obtain ⟨axis,h3,h⟩:=bind_some h;obtain ⟨re2,h4,h⟩:=bind_some h;obtain ⟨im2,h5,h⟩:=bind_some h;obtain ⟨c,h6,h⟩:=bind_some h;simp only at h1 h2 h3 h4 h5 h6 h;obtain rfl:=Option.some.inj h;clear h;refine rI fun K=>K8 rfl (rs [0,5,18] K ?_);refine wcf rfl (sk (rJ fun K=>K1 (j0 E0 hb34 (zBZ hp) fun v22 w2 E0 N22 => ?_)));have N22:=N22.poly;refine K1 (j1 E0 N22.ext hb167 (line_ok) fun v23 w2 E0 N22 N23 => ?_);have N23:=N23.poly;refine K1 (j0 E0 hb166 (along_ok N22 zM.nil N23 h1) fun v24 w2 E0 hr => ?_);obtain ⟨vr,vi,rfl,hR,hI⟩:=hr;refine mv (xt rfl (xt rfl (ag (ag (rm [6,7] K ?_)))));refine rJ fun K=>mv (K1 (j2 E0 hR.ext hI.ext hb168 (zEi hR hI h2) fun v29 w2 E0 hR hI hG => ?_));have hG:=hG.poly;refine ag (rm [6,7,8] K ?_);refine rJ fun K=>K1 (j3 E0 hR.ext hI.ext hG.ext hb169 (times_ok hG h3) fun vi w2 E0 hR hI hG hr => ?_);obtain ⟨rfl,ha1,ha2⟩:=hr;refine ag (rm [3,6,7,8] K ?_);refine rJ fun K=>mv (K1 (j2 E0 hI.ext hG.ext hb170 (zED hR hG h4) fun v34 w2 E0 hI hG hR2 => ?_));clear hR;have hR:=hR2.poly;clear hR2;refine mv (mv (K1 (j2 E0 hR.ext hG.ext hb170 (zED hI hG h5) fun v37 w2 E0 hR hG hI2 => ?_)));clear hI;have hI:=hI2.poly;clear hI2
   refine ag (ag (rm [3,6,7,8] K ?_));refine zA ?_;have hR0:=hR;have hI0:=hI;obtain ⟨rp,rc,rfl,-,-,hrl⟩:=hR0;obtain ⟨ip,ic,rfl,-,-,hil⟩:=hI0;refine rI fun K=>K1 (zJ zAA rfl (mv (K1 (zJ zAA rfl (K1 (zCj rfl rfl ?_))))));have hmx:(if (re2.length:Int)<(im2.length:Nat) then ((im2.length:Nat):Int) else (re2.length:Nat))=max ((re2.length:Nat):Int) (im2.length:Nat):=by split<;>omega
   rw [hmx];refine K1 (zH (v := .int .i64 (max ((re2.length:Nat):Int) (im2.length:Nat)-1)) rfl rfl (congrArg (fun z=>some (Value.int .i64 z)) (zAG (by omega) (by omega))) (ag (rs [3,6,7,8,9] K ?_)));refine rJ fun K=>mv (ag (ag (ag (rm [3,6,7,8,9,10,11,12] K ?_))));refine zA (rJ fun K=>K1 (zJ zAA rfl (mv (K1 (zJ zAA rfl (K8 rfl (rm [3,6,7,8,9,10,11,12,50] K ?_)))))));refine K0 rfl ?_ ?_<;>intro hc
   · have hs:im2.length<re2.length:=by have h0:=of_decide_eq_true hc;omega
     clear hc;have h7:chain re2 im2=some c:=by simpa [hs] using h6
     have hne:=(zDA h7).2;refine rI fun K=>mv (ag (ag (ag (rs [3,8,9,10,11,12] K ?_))));refine rJ fun K=>mv (K1 (j1 E0 hG.ext hb171 (by first | exact zFr hR hI h7 | exact zFr hI hR h7) fun v55 w2 E0 hG hC => ?_));have hCl:=hC.len;have b1 := @zCM true c;have b2 := @zCM false c;refine ag (rm [3,8,9,12,13] K ?_);refine rJ fun K=>mv (K1 (j2 E0 hG.ext hC.ext hb173 (zGZ) fun v12 w2 E0 hG hC hr => ?_));obtain ⟨m1,rfl,hM1⟩:=hr;refine K1 (j2 E0 hG.ext hC.ext hb172 (zCv hC hM1 hne) fun vi w2 E0 hG hC hr => ?_);subst hr;refine mv (K1 (j2 E0 hG.ext hC.ext hb173 (zGZ) fun v12 w2 E0 hG hC hr => ?_));obtain ⟨m2,rfl,hM2⟩:=hr;refine K1 (j2 E0 hG.ext hC.ext hb172 (zCv hC hM2 hne) fun vi w2 E0 hG hC hr => ?_);subst hr;refine K1 (zH (v := .int .i64 (zBi true c-zBi false c)) rfl rfl (congrArg (fun z=>some (Value.int .i64 z)) (zAG (by omega) (by omega))) ?_);refine K1 (zH (v := .int .i64 ((if decide (im2.length<re2.length)=true then -1 else 1)*(zBi true c-zBi false c))) rfl rfl (by simp only [hs,decide_true,decide_false,Bool.false_eq_true,if_true,if_false];exact congrArg (fun z=>some (Value.int .i64 z)) (zAG (by omega) (by omega))) ?_);refine ag (rm [3,8,9,14] K ?_);refine zA ?_;obtain ⟨turn,ht⟩:∃ t,(if decide (im2.length<re2.length)=true then -1 else 1)*(zBi true c-zBi false c)=t:=⟨_,rfl⟩
     have htb : -10000≤turn∧turn≤10000:=by rw [← ht];simp only [hs,decide_true,decide_false,Bool.false_eq_true,if_true,if_false];omega
     rw [ht];have hgl:=zBp g;have hgl2:=hG.len;refine rI fun K=>K1 (j0 E0 hb18 (zCK hG) fun vi w2 E0 hr => ?_);subst hr;refine mv (K1 (zH (v := .int .i64 (((trim g).length:Int)-1-axis)) rfl rfl (congrArg (fun z=>some (Value.int .i64 z)) (zAG (by omega) (by omega))) (K1 (zFH rfl rfl (by decide) ?_))));rw [show IntKind.i64.wrap ((((trim g).length:Int)-1-axis).tdiv 2)=half2 (((trim g).length:Int)-1-axis) from zAG (by have:=zAu (((trim g).length:Int)-1-axis);unfold half2 at this;omega) (by have:=zAu (((trim g).length:Int)-1-axis);unfold half2 at this;omega)];refine mv (mv (K1 (zH (v := .int .i64 (max ((re2.length:Nat):Int) (im2.length:Nat)-1-turn)) rfl rfl (congrArg (fun z=>some (Value.int .i64 z)) (zAG (by omega) (by omega))) (K1 (zFH rfl rfl (by decide) ?_)))));rw [show IntKind.i64.wrap ((max ((re2.length:Nat):Int) (im2.length:Nat)-1-turn).tdiv 2)=half2 (max ((re2.length:Nat):Int) (im2.length:Nat)-1-turn) from zAG (by have:=zAu (max ((re2.length:Nat):Int) (im2.length:Nat)-1-turn);unfold half2 at this;omega) (by have:=zAu (max ((re2.length:Nat):Int) (im2.length:Nat)-1-turn);unfold half2 at this;omega)];have q1:=zAu (((trim g).length:Int)-1-axis);have q2:=zAu (max ((re2.length:Nat):Int) (im2.length:Nat)-1-turn)
     refine K1 (zH (v := .int .i64 (half2 (((trim g).length:Int)-1-axis)+half2 (max ((re2.length:Nat):Int) (im2.length:Nat)-1-turn))) rfl rfl (congrArg (fun z=>some (Value.int .i64 z)) (zAG (by omega) (by omega))) (mv (ag (ag (ag (rs [2,3,4] K ?_))))));refine zE (zQ ?_);exact ⟨rfl,_,zCZ rfl rfl rfl rfl,E0,by rw [← ht];rfl,(by simp only;omega),(by simp only;omega)⟩
   · have hs:¬ im2.length<re2.length:=by have h0:=of_decide_eq_false hc;omega
     clear hc;have h7:chain im2 re2=some c:=by simpa [hs] using h6
     have hne:=(zDA h7).2;refine sk (rJ fun K=>mv (K1 (j1 E0 hG.ext hb171 (by first | exact zFr hR hI h7 | exact zFr hI hR h7) fun v55 w2 E0 hG hC => ?_)));have hCl:=hC.len;have b1 := @zCM true c;have b2 := @zCM false c;refine ag (rm [3,8,9,12,13] K ?_);refine rJ fun K=>mv (K1 (j2 E0 hG.ext hC.ext hb173 (zGZ) fun v12 w2 E0 hG hC hr => ?_));obtain ⟨m1,rfl,hM1⟩:=hr;refine K1 (j2 E0 hG.ext hC.ext hb172 (zCv hC hM1 hne) fun vi w2 E0 hG hC hr => ?_);subst hr;refine mv (K1 (j2 E0 hG.ext hC.ext hb173 (zGZ) fun v12 w2 E0 hG hC hr => ?_));obtain ⟨m2,rfl,hM2⟩:=hr;refine K1 (j2 E0 hG.ext hC.ext hb172 (zCv hC hM2 hne) fun vi w2 E0 hG hC hr => ?_);subst hr;refine K1 (zH (v := .int .i64 (zBi true c-zBi false c)) rfl rfl (congrArg (fun z=>some (Value.int .i64 z)) (zAG (by omega) (by omega))) ?_);refine K1 (zH (v := .int .i64 ((if decide (im2.length<re2.length)=true then -1 else 1)*(zBi true c-zBi false c))) rfl rfl (by simp only [hs,decide_true,decide_false,Bool.false_eq_true,if_true,if_false];exact congrArg (fun z=>some (Value.int .i64 z)) (zAG (by omega) (by omega))) ?_);refine ag (rm [3,8,9,14] K ?_);refine zA ?_;obtain ⟨turn,ht⟩:∃ t,(if decide (im2.length<re2.length)=true then -1 else 1)*(zBi true c-zBi false c)=t:=⟨_,rfl⟩
     have htb : -10000≤turn∧turn≤10000:=by rw [← ht];simp only [hs,decide_true,decide_false,Bool.false_eq_true,if_true,if_false];omega
     rw [ht];have hgl:=zBp g;have hgl2:=hG.len;refine rI fun K=>K1 (j0 E0 hb18 (zCK hG) fun vi w2 E0 hr => ?_);subst hr;refine mv (K1 (zH (v := .int .i64 (((trim g).length:Int)-1-axis)) rfl rfl (congrArg (fun z=>some (Value.int .i64 z)) (zAG (by omega) (by omega))) (K1 (zFH rfl rfl (by decide) ?_))));rw [show IntKind.i64.wrap ((((trim g).length:Int)-1-axis).tdiv 2)=half2 (((trim g).length:Int)-1-axis) from zAG (by have:=zAu (((trim g).length:Int)-1-axis);unfold half2 at this;omega) (by have:=zAu (((trim g).length:Int)-1-axis);unfold half2 at this;omega)];refine mv (mv (K1 (zH (v := .int .i64 (max ((re2.length:Nat):Int) (im2.length:Nat)-1-turn)) rfl rfl (congrArg (fun z=>some (Value.int .i64 z)) (zAG (by omega) (by omega))) (K1 (zFH rfl rfl (by decide) ?_)))));rw [show IntKind.i64.wrap ((max ((re2.length:Nat):Int) (im2.length:Nat)-1-turn).tdiv 2)=half2 (max ((re2.length:Nat):Int) (im2.length:Nat)-1-turn) from zAG (by have:=zAu (max ((re2.length:Nat):Int) (im2.length:Nat)-1-turn);unfold half2 at this;omega) (by have:=zAu (max ((re2.length:Nat):Int) (im2.length:Nat)-1-turn);unfold half2 at this;omega)];have q1:=zAu (((trim g).length:Int)-1-axis);have q2:=zAu (max ((re2.length:Nat):Int) (im2.length:Nat)-1-turn)
     refine K1 (zH (v := .int .i64 (half2 (((trim g).length:Int)-1-axis)+half2 (max ((re2.length:Nat):Int) (im2.length:Nat)-1-turn))) rfl rfl (congrArg (fun z=>some (Value.int .i64 z)) (zAG (by omega) (by omega))) (mv (ag (ag (ag (rs [2,3,4] K ?_))))));refine zE (zQ ?_);exact ⟨rfl,_,zCZ rfl rfl rfl rfl,E0,by rw [← ht];rfl,(by simp only;omega),(by simp only;omega)⟩
 · rw [e];rw [routh,if_pos (by simp [e]),e] at h;obtain rfl:=Option.some.inj h;refine rI fun K=>K8 rfl (rs [0,5,18] K ?_);refine wct rfl (rJ fun K=>ag (ag (ag (rm [2,3,4] K ?_))));refine zE (zY (zQ ?_));exact ⟨rfl,_,zCZ rfl rfl rfl rfl,E0,rfl,(by show (-1000000000:Int)≤0+0;decide),(by show (0+0:Int)≤1000000000;decide)⟩
 · rw [e];rw [routh,if_pos (by simp [e]),e] at h;obtain rfl:=Option.some.inj h;refine rI fun K=>K8 rfl (rs [0,5,18] K ?_);refine wct rfl (rJ fun K=>ag (ag (ag (rm [2,3,4] K ?_))));refine zE (zY (zQ ?_));exact ⟨rfl,_,zCZ rfl rfl rfl rfl,E0,rfl,(by show (-1000000000:Int)≤0+0;decide),(by show (0+0:Int)≤1000000000;decide)⟩
theorem zLP {p:Poly} {L:List Poly} (hp:zM w v p) (h:asked p=0→parts p=some L):Ret prog 177 #[v] w (fun r w'=>∃ u,r = .tuple #[u,.int .i64 (asked p)]∧(asked p=0→zBB w' u L)):=by
 have E0:Ext w w:=Ext.refl w;refine J0 51 func177 rfl (rj fun K=>ag (ag (rm [0] K ?_)));refine zA (rJ fun K=>K1 (j1 E0 hp.ext hb165 (zJY hp) fun vi w2 E0 hp hr => ?_));subst hr;refine ag (rm [0,4] K ?_);refine zA ?_;rcases zEA p with e | e | e
 · rw [e];have h:=h e;unfold parts at h;obtain ⟨p2,h1,h⟩:=bind_some h;obtain ⟨d,h2,h⟩:=bind_some h;obtain ⟨g,h3,h⟩:=bind_some h;obtain ⟨b,h4,h⟩:=bind_some h;obtain ⟨c,h5,h⟩:=bind_some h;refine rI fun K=>K8 rfl (rs [0,4,15] K ?_);refine wcf rfl (sk (rj fun K=>ag (rm [0,5] K ?_)));refine rJ fun K=>K1 (j0 E0 hb253 (zHI hp h1) fun v18 w2 E0 N18 => ?_);have N18:=N18.poly;have hpl:=N18.len;refine ag (rm [0,5] K ?_);refine rJ fun K=>K1 (j1 E0 N18.ext hb256 (zFk N18 h2) fun v20 w2 E0 N18 N20 => ?_);have N20:=N20.poly;refine ag (rm [0,5,6] K ?_);refine rJ fun K=>mv (K1 (j2 E0 N18.ext N20.ext hb168 (zEi N18 N20 h3) fun v23 w2 E0 N18 N20 N23 => ?_));have N23:=N23.poly;refine ag (rm [0,5,6,7] K ?_);refine rJ fun K=>mv (K1 (j2 E0 N20.ext N23.ext hb170 (zED N18 N23 h4) fun v26 w2 E0 N20 N23 N26 => ?_));have N26:=N26.poly;refine mv (mv (K1 (j1 E0 N26.ext hb170 (zED N20 N23 h5) fun v29 w2 E0 N26 N29 => ?_)));have N29:=N29.poly;refine ag (ag (rm [5,8,9] K ?_));refine zA (zG ?_);refine zo (X:=Nat) (fun f ρ w'=>∃ va vb vc A B C,Keep ρ [(5,va),(8,vb),(9,vc)]∧AccC w.heap.size w' va A∧zM w' vb B∧zM w' vc C∧Ext w w'∧(∃ M,zLs f B C=some M∧A++M=L)∧A.length+f≤4097) (fun f=>f) (p2.length+1) ⟨_,_,_,[],b,c,(kp rfl),AccC.nil,N26,N29,E0,⟨_,h,rfl⟩,by simp;omega⟩ ?_;clear E0 hp h hpl N18 N20 N23 N26 N29 h1 h2 h3 h4 h5
   rintro f ρ1 w1 ⟨va,vb,vc,A,B,C,hk,hA,hB,hC,E0,⟨M,h,hM⟩,hAl⟩;refine wpe_k _ hk ?_;clear hk ρ1;rcases f with _ | f
   · cases h
   unfold zLs at h;refine zA (rJ fun K=>K1 (j3 E0 hA.ext hB.ext hC.ext hb18 (zCK hB) fun vi w2 E0 hA hB hC hr => ?_));subst hr;refine K8 rfl (rm [5,8,9,32] K ?_);refine K0 rfl ?_ ?_<;>intro hc
   · have h0:¬ (trim B).length≤1:=by have:=of_decide_eq_true hc;omega
     clear hc;rw [if_neg h0] at h;obtain ⟨d2,h1,h⟩:=bind_some h;obtain ⟨rest,h2,h⟩:=bind_some h;obtain ⟨part,h3,h⟩:=bind_some h;obtain ⟨b2,h4,h⟩:=bind_some h;obtain ⟨c2,h5,h⟩:=bind_some h;obtain ⟨M2,hM3,rfl⟩:=map_some h;clear h;refine sk (zG (rJ fun K=>mv (K1 (j3 E0 hA.ext hB.ext hC.ext hb256 (zFk hB h1) fun v35 w2 E0 hA hB hC N35 => ?_))));have N35:=N35.poly;refine K1 (j2 E0 hA.ext hB.ext hb70 (zHW hC N35 h2) fun v36 w2 E0 hA hB N36 => ?_);have N36:=N36.poly;refine ag (rm [5,8,10] K ?_);refine rJ fun K=>mv (K1 (j3 E0 hA.ext hB.ext N36.ext hb168 (zEi hB N36 h3) fun v39 w2 E0 hA hB N36 N39 => ?_));have N39:=N39.poly;refine ag (rm [5,8,10,11] K ?_);refine rJ fun K=>mv ?_;refine K1 (zR (cs:=[v39]) zEW info25' (by decide) (by decide) (by obtain ⟨pp,pc,rfl,-⟩:=N39;kernel_rfl) fun bb w10 hb hE hBb hs => ?_);replace E0:=E0.trans hE;replace hA:=hA.ext hE;replace hB:=hB.ext hE;replace N36:=N36.ext hE;replace N39:=N39.ext hE;clear hE hb hs;refine K1 (zEc hA rfl hBb N39 (by omega) E0.size fun va2 w11 hX hA2 => ?_);replace E0:=hX.ext (Nat.le_refl _) E0;replace hB:=hB.keep hX.keep;replace N36:=N36.keep hX.keep;replace N39:=N39.keep hX.keep;clear hX hA hBb;refine ag (rm [5,8,10,11] K ?_);refine rI fun K=>mv (K1 (j3 E0 hA2.ext N36.ext N39.ext hb170 (zED hB N39 h4) fun v46 w2 E0 hA2 N36 N39 N46 => ?_));have N46:=N46.poly
     refine mv (mv (K1 (j2 E0 hA2.ext N46.ext hb170 (zED N36 N39 h5) fun v49 w2 E0 hA2 N46 N49 => ?_)));have N49:=N49.poly;refine ag (ag (rl K (zT (zV ?_))));exact ⟨rfl,f,⟨_,_,_,_,b2,c2,(kp rfl),hA2,N46,N49,E0,⟨M2,hM3,by rw [List.append_assoc];exact hM⟩,by rw [List.length_append];simp;omega⟩,by omega⟩
   · have h0:(trim B).length≤1:=by have:=of_decide_eq_false hc;omega
     clear hc;rw [if_pos h0] at h;obtain rfl:=Option.some.inj h;rw [List.append_nil] at hM;subst hM;refine zi (zAE (zv (zP (zN (rJ fun K=>ag (ag (rm [2,3] K ?_)))))));exact zE (zQ ⟨rfl,_,zn rfl rfl rfl,E0,_,rfl,fun _=>hA.chain (by omega)⟩)
 · rw [e];clear h;refine rI fun K=>K8 rfl (rs [0,4,15] K ?_);refine wct rfl (rJ fun K=>ag (ag (rm [2,3] K ?_)));exact zE (zY (zQ ⟨rfl,_,zn rfl rfl rfl,E0,_,rfl,fun h=>by simp at h⟩))
 · rw [e];clear h;refine rI fun K=>K8 rfl (rs [0,4,15] K ?_);refine wct rfl (rJ fun K=>ag (ag (rm [2,3] K ?_)));exact zE (zY (zQ ⟨rfl,_,zn rfl rfl rfl,E0,_,rfl,fun h=>by simp at h⟩))
variable {a bx k n:Nat}
def zGb (n:Int) (ratio:Nat→Option Rat):Option (Poly×Int):=if n<0∨20<n then some ([],7) else (zNk n.toNat ratio).map fun l=>(l,0)
theorem zLy (ha:a<1000000) (hb:b<1000000) (hr:rroom (a:Rat) (b:Rat)=true):Ret prog 96 #[.int .i64 (a:Int),.int .i64 (b:Int)] w (fun r w'=>IsNum w' r ((a:Rat)/(b:Rat))) :=
 zIF (a:=(a:Int)) (b:=(b:Int)) (by omega) (by omega) (by omega) (by omega) hr
theorem zFN {ratio:Nat→Option Rat}:∀ {k:Nat} {O R:Poly},zGc ratio k O=some R→R.length=O.length
 | 0,O,R,h=>by cases h;rfl
 | k+1,O,R,h=>by
  unfold zGc at h;obtain ⟨c,_,h⟩:=bind_some h;obtain ⟨x,_,h⟩:=bind_some h;simpa using zFN h
theorem zFu {p:Poly} (hp:zM w v p):Ret prog 79 #[v] w (fun u _=>u = .bool (longP p)):=by
 refine J0 6 func79 rfl (rj fun K=>ag (rm [0] K ?_));refine rJ fun K=>K1 (j0 E0 hb18 (zCK hp) fun vi w2 E0 hr => ?_);subst hr;refine K8 rfl (ag (rm [2] K ?_));exact zE (en rfl E0 (congrArg Value.bool (decide_eq_decide.2 (by omega))))
theorem zKP {p:Poly} (hp:zM w v p):Ret prog 67 #[v] w (fun u _=>u = .int .i64 (asked p)):=by
 refine J0 10 func67 rfl (rj fun K=>ag (rm [0] K ?_));refine zA (zG (rJ fun K=>K1 (j1 E0 hp.ext hb79 (zFu hp) fun vi w2 E0 hp hr => ?_)));subst hr;refine ag (rm [0,3] K ?_);refine K0 rfl ?_ ?_<;>intro hc
 · have h41:41<(trim p).length:=of_decide_eq_true (show longP p=true from hc);clear hc;refine rj fun K=>ag (rm [2] K ?_);refine zE (zh (zY (zQ ?_)));exact ⟨rfl,_,zm rfl rfl,E0,by rw [asked,if_pos h41];rfl⟩
 · have h41:¬ 41<(trim p).length:=of_decide_eq_false (show longP p=false from hc);clear hc;refine rJ fun K=>K1 (j0 E0 hb18 (zCK hp) fun vi w2 E0 hr => ?_);subst hr;refine K8 rfl (ag (rm [6] K ?_));refine K0 rfl ?_ ?_<;>intro hc
   · have h0:trim p=[]:=List.eq_nil_of_length_eq_zero (by have:=of_decide_eq_true hc;omega);clear hc;refine rj fun K=>ag (rm [2] K ?_);refine zE (zh (zY (zQ ?_)));exact ⟨rfl,_,zm rfl rfl,E0,by rw [asked,if_neg h41,if_pos h0];rfl⟩
   · have h0:trim p≠[]:=fun e=>by rw [e] at hc;cases hc
     clear hc;refine zz (zT (zN (rj fun K=>ag (rm [2] K ?_))));refine zE (zQ ?_);exact ⟨rfl,_,zm rfl rfl,E0,by rw [asked,if_neg h41,if_neg h0];rfl⟩
theorem zKO {n:Int} {cap:Value} {ratio:Nat→Option Rat} {R:Poly×Int} (hf:zAq prog f) (h:zGb n ratio=some R) (hsig:∀ (k:Nat) (x:Rat),n≤20→(k:Int)<n→ratio k=some x→∀ w',Ext w w'→Ret prog f #[.int .i64 (k:Int),cap] w' (fun u w2=>IsNum w2 u x)):Ret prog 94 #[.int .i64 n,.func (.func f) #[] #[cap]] w (fun r w'=>∃ u,r = .tuple #[u,.int .i64 R.2]∧IsOwn w.heap.size w' u R.1):=by
 have E0:Ext w w:=Ext.refl w;refine J0 40 func94 rfl (rj fun K=>ag (ag (rm [0,1] K ?_)));refine zA (zA ?_);rcases (show n<0∨(¬ n<0∧20<n)∨∃ m:Nat,n=m∧m≤20 from by by_cases h1:n<0;exact .inl h1;by_cases h2:20<n;exact .inr (.inl ⟨h1,h2⟩);exact .inr (.inr ⟨n.toNat,by omega,by omega⟩)) with h1 | ⟨h1,h2⟩ | ⟨m,rfl,hm⟩
 · rw [zGb,if_pos (.inl h1)] at h;obtain rfl:=Option.some.inj h;refine rI fun K=>K9 true rfl (decide_eq_true h1) (mv (K3 (K3 (pc0 rfl (rs [0,1,13] K ?_)))));refine wct rfl (rj fun K=>ag (ag (rm [1,4,5] K ?_)));exact zE (zY (zQ ⟨rfl,_,zn rfl rfl rfl,E0,_,rfl,IsOwn.nil⟩))
 · rw [zGb,if_pos (.inr h2)] at h;obtain rfl:=Option.some.inj h;refine rI fun K=>K9 false rfl (decide_eq_false h1) (mv (K7 (K2 (zH (v := .bool true) rfl rfl (congrArg (fun z=>some (Value.bool z)) (decide_eq_true h2)) (pc0 rfl (rs [0,1,13] K ?_))))));refine wct rfl (rj fun K=>ag (ag (rm [1,4,5] K ?_)));exact zE (zY (zQ ⟨rfl,_,zn rfl rfl rfl,E0,_,rfl,IsOwn.nil⟩))
 · rw [zGb,if_neg (by omega),Int.toNat_natCast] at h;obtain ⟨R,hR,rfl⟩:=map_some h;clear h;unfold zNk at hR;have hRl:R.length=m+1:=by rw [zFN hR];simp
   refine rI fun K=>K9 false rfl (decide_eq_false (by omega)) (mv (K7 (K2 (zH (v := .bool false) rfl rfl (congrArg (fun z=>some (Value.bool z)) (decide_eq_false (by omega))) (pc0 rfl (rs [0,1,13] K ?_))))));refine wcf rfl (sk (rJ fun K=>K1 (zy (b:=1) (m+1) rfl rfl rfl (by omega) ?_)));refine K1 (zAg zAV zDT rfl rfl rfl (by omega) (by omega) (by omega) fun ob w1 hb1 hE hB hs => ?_);have hob:w.heap.size≤ob:=Nat.le_of_eq hb1.symm;replace E0:=E0.trans hE;clear hE hs hb1;rw [show ((m+1:Nat):Int).toNat=m+1 from by omega] at hB ⊢;have hOB:=PBlk.zeros hB;clear hB;refine ag (rm [0,1,6] K ?_);refine rJ fun K=>mv (K1 (j1 E0 hOB.ext hb100 (zDD) fun v19 w2 E0 hOB N19=>K1 (zBH (ix:=m) rfl rfl (by omega) (K1 (zBD (k:=m) rfl rfl N19 hOB (by simp) fun v w2 hU hN => ?_)))));replace E0:=E0.upd hU hob;clear hOB hU;have hOB:=hN;clear hN;refine rm [0,1,6] K ?_;refine zA (rJ fun K=>K1 (zH (v := .int .i64 ((m:Int)-1)) rfl rfl (congrArg (fun z=>some (Value.int .i64 z)) (zAG (by omega) (by omega))) (ag (rm [1,6,7] K ?_))));refine zG (zo (X:=Nat) (fun k ρ w'=>Keep ρ [(1,.func (.func f) #[] #[cap]),(6,.slice (some ⟨ob,0,none⟩) (m+1) (m+1)),(7,.int .i64 (((k:Nat):Int)-1))]∧k≤m∧Ext w w'∧∃ O,O.length=m+1∧PBlk w' ob O∧zGc ratio k O=some R) (fun k=>k) m ⟨(kp rfl),Nat.le_refl _,E0,_,by simp,hOB,hR⟩ ?_)
   clear E0 hOB hR;rintro k ρ1 w1 ⟨hk,hkl,E0,O,hOl,hOB,hA⟩;refine wpe_k _ hk ?_;clear hk ρ1;refine zA (zA ?_);rcases k with _ | j
   · obtain rfl:=Option.some.inj hA;refine rI fun K=>K8 rfl (rs [1,6,7,24] K ?_);refine wcf (congrArg Value.bool (decide_eq_false (by omega))) (zi (zAE (zv (zP (zN (rJ fun K=>ag (ag (rm [1,4,5,6,7] K ?_))))))));refine zE (zQ ?_);exact ⟨rfl,_,zn rfl rfl rfl,E0,_,rfl,some ⟨ob,0,none⟩,m+1,by rw [hRl];rfl,(by show O.length≤_;omega),hOB.rd,(by show O.length≤_;omega),fun _=>⟨ob,rfl,hob⟩⟩
   · have hw1:((j+1:Nat):Int)-1=(j:Int):=by omega
     have hw2:IntKind.i64.wrap ((j:Int)-1)=(j:Int)-1:=zAG (by omega) (by omega);rw [hw1];unfold zGc at hA;obtain ⟨c,hc1,hA⟩:=bind_some hA;obtain ⟨x,hx1,hA⟩:=bind_some hA;obtain ⟨hr1,rfl⟩:=zBn hx1;refine rI fun K=>K8 rfl (rs [1,6,7,24] K ?_);refine wct (congrArg Value.bool (decide_eq_true (by omega))) (sk (zA (zG ?_)));have hnw:NoW [ob] _:=noWP hOB
     refine zDN [⟨12,ob,fun w=>PBlk w ob (O),fun w=>PBlk w ob (O.set j (O.getD (j+1) 0*c))⟩] [([(6,none)],none),([(7,none)],none),([(6,none)],none),([(7,none)],none),([(30,some 0)],none),([(29,some 2),(31,some 0)],none),([(32,some 0)],none),([(1,none)],none),([(7,none)],none),([(34,some 1),(35,some 0)],none),([(33,some 3),(36,some 0)],none),([(27,some 10),(28,some 9)],none),([(38,some 0),(37,some 1)],none)] mixed (by kernel_rfl) (by kernel_rfl) (by kernel_rfl) (by simp) (by kernel_rfl) (by kernel_rfl) (all1 (zHN hOB)) fun K hK=>dbv rfl (fun σ wx hE hp hk=>zF ⟨Ext.refl _,hk.1⟩) (dbv rfl (fun σ wx hE hp hk=>zF ⟨Ext.refl _,hk.1⟩) (dbv rfl (fun σ wx hE hp hk=>zF ⟨Ext.refl _,hk.1⟩) (dbv rfl (fun σ wx hE hp hk=>zF ⟨Ext.refl _,hk.1⟩) (dbv rfl (fun σ wx hE hp hk=>zy (b:=1) (j+1) hk.1 rfl rfl (by omega) ⟨Ext.refl _,rfl⟩) (dbn (fun v _=>v = .pointer (some ⟨ob,3*(j+1),none⟩)) rfl (fun _ _ _ _ _ h=>h) (fun σ wx hE hp hk=>zBH hk.1 hk.2.1 (by omega) ⟨Ext.refl _,rfl⟩) ?_)))));refine dbn (fun v w'=>IsNum w' v (O.getD (j+1) 0)) rfl (fun _ _ _ h1 hx h=>h.extS hx (hnw.ext h1)) (fun σ wx hE hp hk=>zCs hk.1 rfl (hp _ (List.mem_singleton.2 rfl) (by show _<(12:Nat);decide)) (by omega) fun v h=>⟨Ext.refl _,h⟩) ?_
     refine dbv rfl (fun σ wx hE hp hk=>zF ⟨Ext.refl _,hk.1⟩) (dbv rfl (fun σ wx hE hp hk=>zF ⟨Ext.refl _,hk.1⟩) (dbn (fun v w'=>IsNum w' v c) rfl (fun _ _ _ h1 hx h=>h.extS hx (hnw.ext h1)) (fun σ wx hE hp hk=>zBU hk.1 hf (CallK.eq2 hk.2.1 rfl (CallK.of_ret (hsig j c (by omega) (by omega) hc1 wx (E0.updS hE hob)) fun v w2 hX hr=>⟨hX,hr⟩))) (dbn (fun v w'=>IsNum w' v (O.getD (j+1) 0*c)) rfl (fun _ _ _ h1 hx h=>h.extS hx (hnw.ext h1)) (fun σ wx hE hp hk=>zC hb101 (CallK.of_ret (zCz hk.1 hk.2.1 hr1) fun v w2 hX hr=>⟨hX,hr⟩) rfl) (dbn (fun v _=>v = .pointer (some ⟨ob,3*j,none⟩)) rfl (fun _ _ _ _ _ h=>h) (fun σ wx hE hp hk=>zBH hk.1 hk.2.1 (by omega) ⟨Ext.refl _,rfl⟩) (dbs _ rfl (fun σ wx hE hpre hk=>zBD hk.1 rfl hk.2.1 hpre (by omega) fun v w2 hU hN=>⟨hU,hN⟩) (zKK (hK _ fun wq hS hP => ?_)))))));rintro _ rfl _ rfl _ rfl _ rfl _ rfl v32 N32 v33 N33 _ rfl _ rfl v36 N36 v37 N37 v38 N38 _ _;refine zU ?_;obtain ⟨hN4,-⟩:=hP;replace E0:=E0.updS hS hob;clear hOB hS;have hOB:=hN4;clear hN4;refine zT (zN (K5 [1,6,7] ?_));exact rI fun K=>K8 rfl (ag (rl K (zV (⟨rfl,j,⟨⟨rfl,rfl,rfl,rfl,rfl,congrArg (Value.int .i64) hw2,trivial⟩,by omega,E0,_,by simp [hOl],hOB,hA⟩,by omega⟩))))
theorem Bessel1_ok {x:Rat} (hn:n≤20) (hk:k<n) (hB:Blk w bx 3 [.int .i64 (n:Int)]) (h:rdiv (((2*n-k)*(k+1):Nat):Rat) ((2*(n-k):Nat):Rat)=some x):Ret prog 95 #[.int .i64 (k:Int),.pointer (some ⟨bx,0,none⟩)] w (fun r w'=>IsNum w' r x):=by
 have hb1:(2*n-k)*(k+1)<1000000:=Nat.lt_of_le_of_lt (Nat.mul_le_mul (show 2*n-k≤40 by omega) (show k+1≤20 by omega)) (by decide);refine J0 16 func95 rfl (rj fun K => ?_);refine K1 (zK zAP fun b1 w1 hb hE hB1 hs => ?_);have hgb1:w.heap.size≤b1:=by rw [hb];exact E0.size
 replace E0:=E0.trans hE;clear hE hs hb;refine rm [0,1,3] K ?_;refine zA ?_;obtain ⟨hr1,rfl⟩:=zCC h;replace hB:=hB.ext E0;refine K6 fun K=>K1 (zD zBR rfl hB rfl (K1 (zFI (a:=2) (2*n) rfl rfl rfl (by omega) (mv (K1 (zAS (2*n-k) rfl rfl (by omega) (by omega) (mv (K1 (zy (b:=1) (k+1) rfl rfl rfl (by omega) (K1 (zFI ((2*n-k)*(k+1)) rfl rfl rfl (Nat.lt_trans hb1 (by decide)) (K1 (zD zBR rfl hB rfl (mv (K1 (zAS (n-k) rfl rfl (by omega) (by omega) (K1 (zFI (a:=2) (2*(n-k)) rfl rfl rfl (by omega) (K1 (j1 E0 hB1.ext hb96 (zLy hb1 (by omega) hr1) fun v15 w2 E0 hB1 N15=>K1 (zI rfl N15 (Cell3.of hB1 rfl) fun _ w9 hU hN => ?_)))))))))))))))))))));replace E0:=E0.upd hU hgb1;obtain ⟨cs,hB4,hl4,hN4⟩:=hN;refine rs [3] K ?_;exact zE (zQ ⟨rfl,_,zx rfl rfl rfl zAB hB4 hl4,E0,hN4⟩)
theorem Binomial1_ok {x:Rat} (hn:n≤20) (hk:k<n) (hB:Blk w bx 3 [.int .i64 (n:Int)]) (h:rdiv ((k+1:Nat):Rat) ((n-k:Nat):Rat)=some x):Ret prog 97 #[.int .i64 (k:Int),.pointer (some ⟨bx,0,none⟩)] w (fun r w'=>IsNum w' r x):=by
 refine J0 10 func97 rfl (rj fun K => ?_);refine K1 (zK zAP fun b1 w1 hb hE hB1 hs => ?_);have hgb1:w.heap.size≤b1:=by rw [hb];exact E0.size
 replace E0:=E0.trans hE;clear hE hs hb;refine rm [0,1,3] K ?_;refine zA ?_;obtain ⟨hr1,rfl⟩:=zCC h;replace hB:=hB.ext E0;refine rI fun K=>K1 (zy (b:=1) (k+1) rfl rfl rfl (by omega) (K1 (zD zBR rfl hB rfl (mv (K1 (zAS (n-k) rfl rfl (by omega) (by omega) (K1 (j1 E0 hB1.ext hb96 (zLy (by omega) (by omega) hr1) fun v15 w2 E0 hB1 N15=>K1 (zI rfl N15 (Cell3.of hB1 rfl) fun _ w9 hU hN => ?_)))))))));replace E0:=E0.upd hU hgb1;obtain ⟨cs,hB4,hl4,hN4⟩:=hN;refine rs [3] K ?_;exact zE (zQ ⟨rfl,_,zx rfl rfl rfl zAB hB4 hl4,E0,hN4⟩)
def zJa (n:Int):Option (Poly×Int):=zGb n (fun k=>rdiv (((2*n.toNat-k)*(k+1):Nat):Rat) ((2*(n.toNat-k):Nat):Rat))
theorem zKC {n:Int} {R:Poly×Int} (h:zJa n=some R):Ret prog 32 #[.int .i64 n] w (fun r w'=>∃ u,r = .tuple #[u,.int .i64 R.2]∧IsOwn w.heap.size w' u R.1):=by
 unfold zJa at h;have E0:Ext w w:=Ext.refl w;refine J0 9 func32 rfl (rj fun K => ?_);refine K1 (zk fun b1 w1 hb hE hB1 hs => ?_);have hgb1:w.heap.size≤b1:=by rw [hb];exact E0.size
 replace E0:=E0.trans hE;clear hE hs hb;refine ag (ag (rm [1] K ?_));refine rj fun K=>K1 (zD zBR rfl hB1 rfl (K1 (zBL (K1 (zC hb94 (CallK.of_ret (zKO hb95 h fun k x hn hk hx w2 hE => ?_) fun v6 w2 hE hr => ?_) rfl)))))
 · obtain ⟨m,rfl⟩:∃ m:Nat,n=m:=⟨n.toNat,by omega⟩;exact Bessel1_ok (n:=m) (by omega) (by omega) (hB1.ext hE) hx
 obtain ⟨u,rfl,hu⟩:=hr;have hsz:=E0.size;replace E0:=E0.trans hE;clear hE;refine xt rfl (xt rfl (ag (ag (rm [2,3] K ?_))));exact zE (zQ ⟨rfl,_,zn rfl rfl rfl,E0,_,rfl,hu.sz hsz⟩)
def zHa (n:Int):Option (Poly×Int):=zGb n (fun k=>rdiv ((k+1:Nat):Rat) ((n.toNat-k:Nat):Rat))
theorem Binomial_ok {n:Int} {R:Poly×Int} (h:zHa n=some R):Ret prog 33 #[.int .i64 n] w (fun r w'=>∃ u,r = .tuple #[u,.int .i64 R.2]∧IsOwn w.heap.size w' u R.1):=by
 unfold zHa at h;have E0:Ext w w:=Ext.refl w;refine J0 9 func33 rfl (rj fun K => ?_);refine K1 (zk fun b1 w1 hb hE hB1 hs => ?_);have hgb1:w.heap.size≤b1:=by rw [hb];exact E0.size
 replace E0:=E0.trans hE;clear hE hs hb;refine ag (ag (rm [1] K ?_));refine rj fun K=>K1 (zD zBR rfl hB1 rfl (K1 (zBL (K1 (zC hb94 (CallK.of_ret (zKO hb97 h fun k x hn hk hx w2 hE => ?_) fun v6 w2 hE hr => ?_) rfl)))))
 · obtain ⟨m,rfl⟩:∃ m:Nat,n=m:=⟨n.toNat,by omega⟩;exact Binomial1_ok (n:=m) (by omega) (by omega) (hB1.ext hE) hx
 obtain ⟨u,rfl,hu⟩:=hr;have hsz:=E0.size;replace E0:=E0.trans hE;clear hE;refine xt rfl (xt rfl (ag (ag (rm [2,3] K ?_))));exact zE (zQ ⟨rfl,_,zn rfl rfl rfl,E0,_,rfl,hu.sz hsz⟩)
end Go.Proofs.YtjiendlfobjanaaGreatDoor
namespace Go.Proofs.YtjiendlfobjanaaGreatDoor
open Go Go.RowKit Go.Proofs Tryz
variable {A l:List Rat} {af:Array Edge} {b2 sz':Nat} {c2 u v:Value} {g:Option (Nat×Bool)} {pos:String} {q:Rat} {r:Option Nat} {ty:TypeId} {w w' w0:World} {x y:Operand} {σ:Operand→Value}
def AppY (u v:Value) (w w':World):Prop:=(Ext w w'∧∃ l c,v = .slice (some ⟨w.heap.size,0,none⟩) l c)∨∃ b l c l' c' cs,u = .slice (some ⟨b,0,none⟩) l c∧v = .slice (some ⟨b,0,none⟩) l' c'∧Blk w b 37 cs∧Upd b w w'
theorem runs_append_numY {K:Value→World→Prop} {d:Option Tmp} {sz:Nat} {c1 c3:Value}
 (hx:AccP sz w (σ x) A) (hy:σ y = .slice (some ⟨b2,0,none⟩) 1 1) (hB2:Blk w b2 37 [c1,c2,c3]) (hq:IsNum w (.agg #[c1,c2,c3]) q) (hA:A.length<4096) (hsz:sz≤w.heap.size)
 (hk:∀ v w',AppY (σ x) v w w'→AccP sz w' v (A++[q])→K v w') :
 Runs prog r ⟨d,.call { callee := .builtin .append,args := #[x,y],argTypes := #[25,25] },ty,pos,af,g⟩ σ w K:=by
 obtain ⟨p,c,h1,h2,h3⟩:=hx;have hq0:=hq;have hcells:Cells w (some ⟨b2,0,none⟩) 37 [c1,c2,c3]:=Cells.blk hB2;have hok:[c1,c2,c3].all zBl=true:=by
  obtain ⟨n,dd,he,hn,hd⟩:=hq;obtain ⟨p1,ds1,k1,rfl,-⟩:=hn;obtain ⟨p2,ds2,k2,rfl,-⟩:=hd;cases he;rfl
 have fin:∀ (w':World) (b c':Nat) (cs':List Value),sz≤b→A.length+1≤c'→Blk w' b 37 cs'→cs'.length=3*c'→(∀ i,i<A.length→IsNum w' (.agg ((cs'.drop (3*i)).take 3).toArray) (A.getD i 0))→((cs'.drop (3*A.length)).take 3=[c1,c2,c3])→IsNum w' (.agg #[c1,c2,c3]) q →
  AccP sz w' (.slice (some ⟨b,0,none⟩) (A.length+1) c') (A++[q]):=fun w' b c' cs' g1 g2 g3 g4 g5 g6 g7=>by
  refine ⟨_,c',by simp,by simpa using g2,.inr ⟨b,cs',rfl,g1,g3,g4,fun i hi => ?_⟩⟩;by_cases hi':i<A.length
  · rw [zFC hi'];exact g5 i hi'
  · have:i=A.length:=by simp at hi;omega
    subst this;rw [g6,zFD];exact g7
 by_cases hc:A.length+1≤c
 · -- within the capacity
   rcases h3 with ⟨e1,e2,e3⟩ | ⟨b,cs,e1,e2,e3,e4,e5⟩
   · omega
   · subst e1;refine zBM (n:=3) zAV zAV zDT h1 hy e3 hcells rfl hc (by omega) hok fun w' hU hN=>hk _ w' ?_ ?_
     · exact .inr ⟨b,_,_,_,_,cs,h1,rfl,e3,hU⟩
     · rw [Nat.zero_add,show A.length*3=3*A.length from by omega] at hN;refine fin w' b c _ e2 hc hN (by rw [zAh];exact e4) (fun i hi => ?_) ?_ (hq0.upd hU e3 (by decide))
       · rw [zBY (by omega),if_neg (by omega)];exact (e5 i hi).upd hU e3 (by decide)
       · rw [zBY (by omega),if_pos rfl]
 · have hnew:=zAa (A.length+1) c;have hold:∃ old,Cells w p 37 old∧old.length=A.length*3∧∀ i,i<A.length→IsNum w (.agg ((old.drop (3*i)).take 3).toArray) (A.getD i 0):=by
    rcases h3 with ⟨e1,e2,e3⟩ | ⟨b,cs,e1,e2,e3,e4,e5⟩
    · subst e1;exact ⟨[],.inl rfl,rfl,fun i hi=>by simp at hi⟩
    · refine ⟨cs.take (A.length*3),.inr ⟨b,0,cs,e1,e3,by simp⟩,by simp;omega,fun i hi => ?_⟩;have:=e5 i hi;rwa [show ((cs.take (A.length*3)).drop (3*i)).take 3=(cs.drop (3*i)).take 3 from by
       rw [List.drop_take,List.take_take,Nat.min_eq_left (by omega)]]
   obtain ⟨old,o1,o2,o3⟩:=hold;refine zAJ zAV zAV zDT rfl (by decide) h1 hy o1 o2 hcells rfl (by omega) (by omega) fun w' rest c' g1 hE hB g2 _=>hk _ w' ?_ ?_
   · exact .inl ⟨hE,_,_,rfl⟩
   · have hrl:rest.length=(c'-(A.length+1))*3:=by rw [g2];simp [Builtin.zeroCells,Value.cells]
     refine fin w' _ c' _ hsz g1 hB (by simp [o2,hrl];omega) (fun i hi => ?_) ?_ (hq0.ext hE)
     · rw [List.append_assoc,zDX (by omega)];exact (o3 i hi).ext hE
     · rw [List.append_assoc,List.drop_append_of_le_length (by omega),List.drop_of_length_le (by omega)];simp
def zBP (u:Value) (w:World) (v:Value) (l:List Rat):Prop:=∃ p cap,v = .slice p l.length cap∧l.length≤cap∧PRd w p l∧l.length≤4096∧∀ b n c,u = .slice (some ⟨b,0,none⟩) n c→∀ a,p=some a→l≠[]→a.block≠b
theorem zBP.poly (h:zBP u w v l):zM w v l:=by
 obtain ⟨p,c,h1,h2,h3,h4,_⟩:=h;exact ⟨p,c,h1,h2,h3,h4⟩
theorem zBP.ext (h:zBP u w v l) (hx:Ext w w'):zBP u w' v l:=by
 obtain ⟨p,c,h1,h2,h3,h4,h5⟩:=h;exact ⟨p,c,h1,h2,h3.ext hx,h4,h5⟩
theorem zBP.nil (h:zM w v l):zBP (.slice none 0 0) w v l:=by
 obtain ⟨p,c,h1,h2,h3,h4⟩:=h;exact ⟨p,c,h1,h2,h3,h4,fun b n c e=>by cases e⟩
theorem zBP.app {u':Value} (h:zBP u w v l) (hX:AppY u u' w w'):zBP u' w' v l:=by
 obtain ⟨p,c,h1,h2,h3,h4,h5⟩:=h;rcases hX with ⟨hE,l',c',rfl⟩ | ⟨b,n,k,n',k',cs,rfl,rfl,hB,hU⟩
 · refine ⟨p,c,h1,h2,h3.ext hE,h4,fun b n k e a ha h0 => ?_⟩;obtain ⟨a',e1,e2⟩:=h3.lt h0;rw [ha] at e1;cases e1;cases e;omega
 · refine ⟨p,c,h1,h2,h3.upd hU hB (h5 b n k rfl),h4,fun b2 n2 k2 e a ha h0 => ?_⟩;cases e;exact h5 b n k rfl a ha h0
theorem AccP.lt {sz:Nat} (h:AccP sz w v A):∀ b n c,v = .slice (some ⟨b,0,none⟩) n c→b<w.heap.size:=fun b n c e=>by
 obtain ⟨p,k,h1,h2,h3⟩:=h;rcases h3 with ⟨e1,e2,e3⟩ | ⟨b',cs,e1,e2,e3,e4,e5⟩
 · rw [h1,e2] at e;cases e
 · rw [h1,e1] at e;cases e;exact e3.lt
theorem IsOwn.off {sz:Nat} (h:IsOwn sz w v l) (hA:AccP sz' w0 u A) (hs:w0.heap.size≤sz):zBP u w v l:=by
 obtain ⟨p,c,h1,h2,h3,h4,h5⟩:=h;refine ⟨p,c,h1,h2,h3,h4,fun b n k e a ha h0 => ?_⟩;obtain ⟨b',e1,e2⟩:=h5 h0;have:=hA.lt b n k e;rw [ha] at e1;cases e1;show b'≠b;omega
theorem AppY.ext {sz:Nat} (h:AppY u v w w') (hA:AccP sz w u A) (hs:w0.heap.size≤sz) (hE:Ext w0 w):Ext w0 w':=by
 rcases h with ⟨h,_⟩ | ⟨b,l,c,l',c',cs,h1,h2,h3,h4⟩
 · exact hE.trans h
 · refine hE.upd h4 ?_;obtain ⟨p,k,g1,g2,g3⟩:=hA;rcases g3 with ⟨e1,e2,e3⟩ | ⟨b',cs',e1,e2,e3,e4,e5⟩
   · rw [h1,e2] at g1;cases g1
   · rw [h1,e1] at g1;cases g1;omega
variable {b c i:Nat} {cs:List Value} {w1 w2:World}
def zapL (P:Nat→Bool) (T:Poly) (i:Nat):Poly:=T.mapIdx fun k c=>if k<i∧P k=true then 0 else c
theorem zDP {P:Nat→Bool} {T:Poly}:(zapL P T i).length=T.length:=by unfold zapL;simp
theorem zKy {P:Nat→Bool} {T:Poly}:zapL P T 0=T:=by
 unfold zapL;apply List.ext_getElem (by simp);intro k h1 h2;simp
theorem zNc {P:Nat→Bool} {T:Poly} (h:P i=false):zapL P T (i+1)=zapL P T i:=by
 unfold zapL;apply List.ext_getElem (by simp);intro k h1 h2;simp only [List.getElem_mapIdx];by_cases e:k=i
 · subst e;rw [if_neg (by simp [h]),if_neg (by simp [h])]
 · by_cases e2:k<i∧P k=true
   · rw [if_pos e2,if_pos ⟨by omega,e2.2⟩]
   · rw [if_neg e2,if_neg (fun h=>e2 ⟨by omega,h.2⟩)]
theorem zMf {P:Nat→Bool} {T:Poly} (h:P i=true):zapL P T (i+1)=(zapL P T i).set i 0:=by
 unfold zapL;apply List.ext_getElem (by simp);intro k h1 h2;rw [List.getElem_set];simp only [List.getElem_mapIdx];by_cases e:i=k
 · subst e;rw [if_pos rfl,if_pos ⟨by omega,h⟩]
 · rw [if_neg e];by_cases e2:k<i∧P k=true
   · rw [if_pos e2,if_pos ⟨by omega,e2.2⟩]
   · rw [if_neg e2,if_neg (fun h=>e2 ⟨by omega,h.2⟩)]
theorem zMe {P:Nat→Bool} {T:Poly}:zapL P T T.length=T.mapIdx fun k c=>if P k=true then 0 else c:=by
 unfold zapL;apply List.ext_getElem (by simp);intro k h1 h2;simp only [List.getElem_mapIdx];have:k<T.length:=by simpa using h1
 by_cases e:P k=true
 · rw [if_pos e,if_pos ⟨this,e⟩]
 · rw [if_neg e,if_neg (fun h=>e h.2)]
theorem zapL_fracA {T:Poly}:zapL (fun k=>decide ((T.length-1-k)%2≠0)) T T.length=fracA T:=by
 rw [zMe];unfold fracA;congr 1;funext k c;by_cases e:(T.length-1-k)%2=0<;>simp [e]
theorem zapL_fracB {T:Poly}:trim (zapL (fun k=>decide ((T.length-1-k)%2=0)) T T.length)=fracB T:=by
 rw [zMe];unfold fracB;congr 2;funext k c;by_cases e:(T.length-1-k)%2=0<;>simp [e]
theorem zDS {T:Poly}:(fracA T).length=T.length:=by unfold fracA;simp
theorem asked_zero {p:Poly} (h:asked p=0):trim p≠[]∧(trim p).length≤41:=by
 unfold asked at h;split at h
 · cases h
 · split at h
   · cases h
   · exact ⟨by assumption,by omega⟩
theorem Ext.ext {a b c:World} (h:Ext a b) (k:Ext b c):Ext a c:=h.trans k
theorem AppY.num (h:AppY u v w w') (hN:NumAt c q w) (hne:∀ b n k,u = .slice (some ⟨b,0,none⟩) n k→b≠c):NumAt c q w':=by
 rcases h with ⟨h,_⟩ | ⟨b,l,c',l',c'',cs,h1,h2,h3,h4⟩
 · exact hN.ext h
 · exact hN.upd h4 h3 (Ne.symm (hne b l c' h1))
theorem zBP.updN (h:zBP u w v l) (hE:Ext w w1) (hU:Upd c w1 w2) (hB:Blk w1 c 37 cs) (hc:w.heap.size≤c):zBP u w2 v l:=by
 obtain ⟨p,k,h1,h2,h3,h4,h5⟩:=h;exact ⟨p,k,h1,h2,(h3.ext hE).upd hU hB (h3.ne hc),h4,h5⟩
theorem AccP.updN {sz:Nat} (h:AccP sz w v A) (hE:Ext w w1) (hU:Upd c w1 w2) (hB:Blk w1 c 37 cs) (hc:w.heap.size≤c):AccP sz w2 v A :=
 (h.ext hE).upd hU hB (h.new hc)
theorem IsNum.pair {x y:Rat} {a1 a2 a3 b1 b2 b3:Value} (hB:Blk w b 37 [a1,a2,a3,b1,b2,b3]) (hx:IsNum w (.agg #[a1,a2,a3]) x) (hy:IsNum w (.agg #[b1,b2,b3]) y):zM w (.slice (some ⟨b,0,none⟩) 2 2) [x,y] :=
 ⟨_,2,rfl,Nat.le_refl _,.inr ⟨b,0,_,rfl,hB,by simp,fun i hi=>match i,hi with
  | 0,_=>hx
  | 1,_=>hy⟩,by simp⟩
end Go.Proofs.YtjiendlfobjanaaGreatDoor
namespace Go.Proofs.YtjiendlfobjanaaGreatDoor
open Go Go.RowKit Go.Proofs Tryz
set_option maxRecDepth 10000
set_option maxHeartbeats 2000000
attribute [local irreducible] Runs WPE CallK Ret
variable {v:Value} {w:World}
theorem zFS {p:Poly} {R:Poly×Int} (hp:zM w v p) (h:zEG p=some R):Ret prog 16 #[v] w (fun r w'=>∃ u,r = .tuple #[u,.int .i64 R.2]∧IsOwn w.heap.size w' u R.1):=by
 have E0:Ext w w:=Ext.refl w;refine J0 82 func16 rfl (rj fun K=>ag (ag (rm [0] K ?_)));refine zA (rJ fun K=>K1 (j1 E0 hp.ext hb67 (zKP hp) fun vi w2 E0 hp hr => ?_));subst hr;refine ag (rm [0,4] K ?_);refine zA ?_;rcases zEA p with e | e | e
 · obtain ⟨hT0,hTl⟩:=asked_zero e;unfold zEG at h;rw [if_neg (by rw [e];decide)] at h;obtain ⟨Fo,hF,rfl⟩:=map_some h;rw [e];clear h e;refine rI fun K=>K8 rfl (rs [0,4,14] K ?_);refine wcf rfl (sk (rJ fun K=>K1 (j0 E0 hb34 (zBZ hp) fun v17 w2 E0 N17 => ?_)));generalize trim p=T at hT0 hTl hF N17;have hTn:0<T.length:=List.length_pos_iff.2 hT0;obtain ⟨tp,tc,rfl,htc,hTR,htl,hto⟩:=N17;have hTP:zM _ (.slice tp T.length tc) T:=⟨tp,tc,rfl,htc,hTR,htl⟩;clear hTR hto hp;refine ag (rm [0] K ?_);refine rJ fun K=>K1 (zJ zAA rfl (K1 (zAS (b:=1) (T.length-1) rfl rfl (by omega) (by omega) (ag (rm [0,5] K ?_)))));refine rj fun K=>mv ?_;have hsz:=E0.size;refine K1 (j1 E0 hTP.ext hb68 (zFj hTP) fun v22 w2 E0 hTP N22 => ?_);obtain ⟨xp,ac,rfl,hac,hXR,-,hXo⟩:=N22;obtain ⟨ab,rfl,hxab⟩:=hXo hT0;have hga:w.heap.size≤ab:=Nat.le_trans hsz hxab;have hA:=hXR.blk hT0;clear hXR hXo;clear hsz hxab;refine mv ?_;have hsz:=E0.size;have hlt:=hA.lt;refine K1 (j2 E0 hTP.ext hA.ext hb68 (zFj hTP) fun v24 w2 E0 hTP hA N24 => ?_);obtain ⟨xp,bc,rfl,hbc,hXR,-,hXo⟩:=N24;obtain ⟨bb,rfl,hxbb⟩:=hXo hT0;have hgb:w.heap.size≤bb:=Nat.le_trans hsz hxbb;have hB:=hXR.blk hT0;clear hXR hXo;have hne:ab≠bb:=by omega
   clear hsz hxbb hlt;refine ag (ag (rm [0,5,6,7] K ?_));refine zA (rJ fun K=>K1 (zJ zAA rfl (mv (rm [5,6,7,26,27] K ?_))));refine zG ?_;refine zo (X:=Nat) (fun i ρ w'=>Keep ρ [(5,.int .i64 ((T.length-1:Nat):Int)),(6,.slice (some ⟨ab,0,none⟩) T.length ac),(7,.slice (some ⟨bb,0,none⟩) T.length bc),(26,.int .i64 (T.length:Int)),(27,.int .i64 (i:Int))]∧i≤T.length∧Ext w w'∧PBlk w' ab (zapL (fun k=>decide ((T.length-1-k)%2≠0)) T i)∧PBlk w' bb (zapL (fun k=>decide ((T.length-1-k)%2=0)) T i)) (fun i=>T.length-i) 0 ⟨(kp rfl),Nat.zero_le _,E0,by rw [zKy];exact hA,by rw [zKy];exact hB⟩ ?_;clear E0 hA hB hTP;rintro i ρ1 w1 ⟨hk,hil,E0,hA,hB⟩;refine wpe_k _ hk ?_;clear hk ρ1;refine rj fun K=>K8 rfl (rm [5,6,7,26,27,28] K ?_);refine zA ?_;refine K0 rfl ?_ ?_<;>intro hc
   · have hi:i<T.length:=t_lt hc;clear hc;refine sk (zA (zG (rJ fun K=>ag (rm [5,6,7,8,26,27] K ?_))));refine rJ fun K=>mv (K1 (zAS (T.length-1-i) rfl rfl (by omega) (by omega) (K1 (zAz (b:=2) ((T.length-1-i)%2) rfl rfl (by decide) rfl (K8 rfl (rm [5,6,7,8,26,27,34] K ?_))))));refine K0 rfl ?_ ?_<;>intro hc
     · have hpar:(T.length-1-i)%2=0:=by have:=eq_of_beq hc;omega
       clear hc;refine rI fun K=>mv (K1 (zj (cs := #[.bool false,.slice none 0 0,.slice none 0 0]) (by kernel_rfl) (K1 (zBH (ix:=i) rfl rfl hi ?_))));refine K1 (zBD (k:=i) rfl rfl IsNum.zero hB (by rw [zDP];exact hi) fun v w2 hU hN => ?_);replace E0:=E0.upd hU hgb;replace hA:=(let ⟨cs,e1,_⟩:=hB;hA.upd hU e1 hne);clear hU hB;have hB:=hN;clear hN;rw [← zMf (by simp [hpar])] at hB;rw [← zNc (P:=(fun k=>decide ((T.length-1-k)%2≠0))) (T:=T) (i:=i) (by simp [hpar])] at hA;refine rl K (zT (zN (K5 [5,6,7,26,27] ?_)));exact K6 fun K=>K1 (zy (b:=1) (i+1) rfl rfl rfl (by omega) (mv (rl K (zV (⟨rfl,i+1,⟨(kp rfl),by omega,E0,hA,hB⟩,by omega⟩)))))
     · have hpar:(T.length-1-i)%2=1:=by have:=ne_of_beq_false hc;omega
       clear hc;refine rI fun K=>mv (K1 (zj (cs := #[.bool false,.slice none 0 0,.slice none 0 0]) (by kernel_rfl) (K1 (zBH (ix:=i) rfl rfl hi ?_))));refine K1 (zBD (k:=i) rfl rfl IsNum.zero hA (by rw [zDP];exact hi) fun v w2 hU hN => ?_);replace E0:=E0.upd hU hga;replace hB:=(let ⟨cs,e1,_⟩:=hA;hB.upd hU e1 (Ne.symm hne));clear hU hA;have hA:=hN;clear hN;rw [← zMf (by simp [hpar])] at hA;rw [← zNc (P:=(fun k=>decide ((T.length-1-k)%2=0))) (T:=T) (i:=i) (by simp [hpar])] at hB;refine rl K (zT (zN (K5 [5,6,7,26,27] ?_)));exact K6 fun K=>K1 (zy (b:=1) (i+1) rfl rfl rfl (by omega) (mv (rl K (zV (⟨rfl,i+1,⟨(kp rfl),by omega,E0,hA,hB⟩,by omega⟩)))))
   · obtain rfl:i=T.length:=by have:=f_lt hc;omega
     clear hc;refine zi (zAE (zv (zP (zN (rj fun K=>mv ?_)))));rw [zapL_fracA] at hA;have hBp:zM _ (.slice (some ⟨bb,0,none⟩) T.length bc) (zapL (fun k=>decide ((T.length-1-k)%2=0)) T T.length):=⟨_,bc,by rw [zDP],by rw [zDP];exact hbc,hB.rd,by rw [zDP];omega⟩;have hAp:zM _ (.slice (some ⟨ab,0,none⟩) T.length ac) (fracA T):=⟨_,ac,by rw [zDS],by rw [zDS];exact hac,hA.rd,by rw [zDS];omega⟩;clear hA hB;refine K1 (j1 E0 hAp.ext hb34 (zBZ hBp) fun v45 w2 E0 hAp N45 => ?_);rw [zapL_fracB] at N45;have N45:=N45.poly;clear hBp;refine ag (rm [5,6,7,26,27] K ?_);refine rj fun K=>ag (rm [5,6,7,9,26,27] K ?_);refine zA (rJ fun K=>mv (rm [5,6,7,9,26,27,46,47] K ?_));refine zG ?_;refine zo (X:=Nat) (fun m ρ w'=>∃ va vb vo A B O,Keep ρ [(6,va),(7,vb),(9,vo),(46,.int .i64 ((T.length-1:Nat):Int)),(47,.int .i64 (O.length:Int))]∧zBP vo w' va A∧zBP vo w' vb B∧AccP w.heap.size w' vo O∧Ext w w'∧(∃ M,fracL m A B=some M∧Fo=M.map (O ++ ·))∧A.length=m+1∧O.length+m=T.length-1) (fun m=>m) (T.length-1) ⟨_,_,_,fracA T,fracB T,[],(kp rfl),zBP.nil hAp,zBP.nil N45,AccP.nil,E0,⟨Fo,hF,by cases Fo<;>rfl⟩,by rw [zDS];omega,by simp⟩ ?_
     clear E0 hAp N45 hF;rintro m ρ1 w1 ⟨va,vb,vo,A,B,O,hk,hA,hB,hO,E0,⟨M,hM,hFo⟩,hAl,hOl⟩;refine wpe_k _ hk ?_;clear hk ρ1;have hX:Ext w1 w1:=Ext.refl w1;refine zA ?_;rcases m with _ | m
     · cases hM;obtain rfl:Fo=some O:=by rw [hFo];simp
       clear hFo;refine K6 fun K=>K8 rfl (rs [6,7,9,46,47,48] K ?_);refine zA (wcf (congrArg Value.bool (decide_eq_false (by omega))) (zi (zAE (zv (zP (zN (rJ fun K=>ag (ag (rm [2,3,6,7,46,47] K ?_)))))))));exact zE (zQ ⟨rfl,_,zn rfl rfl rfl,E0,_,rfl,hO.own (by omega)⟩)
     · skip
       refine K6 fun K=>K8 rfl (rs [6,7,9,46,47,48] K ?_);refine zA (wct (congrArg Value.bool (decide_eq_true (by omega))) (sk (zA (zG (zA (zA ?_))))));obtain ⟨ap,ac',rfl,hac',hAR,hal,hao⟩:=hA;have hA:zBP vo w1 (.slice ap A.length ac') A:=⟨ap,ac',rfl,hac',hAR,hal,hao⟩;obtain ⟨bp,bc',rfl,hbc',hBR,hbl,hbo⟩:=hB;have hB:zBP vo w1 (.slice bp B.length bc') B:=⟨bp,bc',rfl,hbc',hBR,hbl,hbo⟩;clear hao hbo;refine rI fun K=>K1 (zJ zAA rfl (mv (K1 (zJ zAA rfl (K1 (zAS (b:=1) (A.length-1) rfl rfl (by omega) (by omega) (K8 rfl (rs [6,7,9,46,47,54] K ?_))))))));refine K0 rfl ?_ ?_<;>intro hc
       · have hbad:B.length+1≠A.length:=by have:=bne_iff_ne.1 hc;omega
         clear hc;unfold fracL at hM;rw [if_pos hbad] at hM;cases hM;obtain rfl:Fo=none:=hFo;refine rj fun K=>ag (ag (rm [2,3,6,7,46,47] K ?_));exact zE (zY (zh (zY (zAr (zh (zY (zQ ⟨rfl,_,zn rfl rfl rfl,E0,_,rfl,IsOwn.nil⟩)))))))
       · have hgood:B.length+1=A.length:=by have:=bne_eq_false_iff_eq.1 hc;omega
         clear hc;unfold fracL at hM;rw [if_neg (by omega)] at hM;obtain ⟨q,hq,hM⟩:=bind_some hM;obtain ⟨m1,hm1,hM⟩:=bind_some hM;obtain ⟨c,hc1,hM⟩:=bind_some hM;obtain ⟨M2,hM2,rfl⟩:=map_some hM;clear hM;obtain ⟨hr1,hqe⟩:=zCC hq;clear hq;replace hFo:Fo=M2.map ((O++[q]) ++ ·):=by rw [hFo];cases M2<;>simp
         refine sk (zA ?_);have hE1:=E0
         refine zAN 14 [([(6,none)],none),([(6,none)],none),([(56,some 0)],none),([(57,some 0)],none),([(55,some 3),(58,some 0)],none),([(59,some 0)],none),([(7,none)],none),([(7,none)],none),([(62,some 0)],none),([(63,some 0)],none),([(61,some 3),(64,some 0)],none),([(65,some 0)],none),([(60,some 6),(66,some 0)],none),([],none)] mixed (by kernel_rfl) (by kernel_rfl) (by kernel_rfl) (by kernel_rfl) (by kernel_rfl) fun K hK=>dvp (fun σ wx hE hk=>zF ⟨Ext.refl _,hk.1⟩) (dvp (fun σ wx hE hk=>zF ⟨Ext.refl _,hk.1⟩) (dvp (fun σ wx hE hk=>zJ zAA hk.1 ⟨Ext.refl _,rfl⟩) (dvp (fun σ wx hE hk=>zAS (b:=1) (A.length-1) hk.1 rfl (by omega) (by omega) ⟨Ext.refl _,rfl⟩) (dcp (fun v _=>v = .pointer (ap.map fun a=>a.add (3*(A.length-1)))) (fun _ _ _ _ _ h=>h) (fun σ wx hE hk=>zAU (hAR.ext hE) hk.1 hk.2.1 (by omega) ⟨Ext.refl _,rfl⟩) (dcp (fun v w'=>IsNum w' v (top A)) (fun _ _ _ _ hx h=>h.ext hx.toExt) (fun σ wx hE hk=>zAW (hAR.ext hE) (by omega) hk.1 fun v h=>⟨Ext.refl _,h⟩) (dvp (fun σ wx hE hk=>zF ⟨Ext.refl _,hk.1⟩) (dvp (fun σ wx hE hk=>zF ⟨Ext.refl _,hk.1⟩) (dvp (fun σ wx hE hk=>zJ zAA hk.1 ⟨Ext.refl _,rfl⟩) (dvp (fun σ wx hE hk=>zAS (b:=1) (B.length-1) hk.1 rfl (by omega) (by omega) ⟨Ext.refl _,rfl⟩) (dcp (fun v _=>v = .pointer (bp.map fun a=>a.add (3*(B.length-1)))) (fun _ _ _ _ _ h=>h) (fun σ wx hE hk=>zAU (hBR.ext hE) hk.1 hk.2.1 (by omega) ⟨Ext.refl _,rfl⟩) (dcp (fun v w'=>IsNum w' v (top B)) (fun _ _ _ _ hx h=>h.ext hx.toExt) (fun σ wx hE hk=>zAW (hBR.ext hE) (by omega) hk.1 fun v h=>⟨Ext.refl _,h⟩) ?_)))))))))))
         refine dcp (fun v w'=>IsNum w' v q) (fun _ _ _ _ hx h=>h.ext hx.toExt) (fun σ wx hE hk=>zC hb69 (CallK.of_ret (zDR hk.1 hk.2.1 hr1) fun v w2 hX hr=>⟨hX,(by rw [hqe];exact hr)⟩) rfl) ?_;refine dcp (fun v w'=>∃ b,v = .pointer (some ⟨b,0,none⟩)∧Blk w' b 37 [.bool false,.slice none 0 0,.slice none 0 0]∧w1.heap.size≤b) (fun _ _ _ _ hx h=>(let ⟨b,e,hB,hg⟩:=h;⟨b,e,hB.ext hx.toExt,hg⟩)) (fun σ wx hE hk=>zK zAP fun b w2 hb hX hB hs=>⟨hX,b,rfl,hB,(by rw [hb];exact hE.size)⟩) ?_;refine zAR (hK _ fun wq hE => ?_);rintro _ rfl _ rfl _ rfl _ rfl v59 N59 v60 N60 _ rfl _ rfl _ rfl _ rfl v65 N65 v66 N66 v67 N67 v10 N10;refine zU ?_;replace E0:=E0.trans hE;replace hX:=hX.ext hE;clear hE;obtain ⟨gb,rfl,hBg,hgg⟩:=N10;have hg0:w.heap.size≤gb:=Nat.le_trans hE1.size hgg;have hAn:=hO.lt;refine K1 (zI rfl N67 (Cell3.of hBg rfl) fun _ w9 hU hNA => ?_);replace E0:=E0.upd hU hg0;replace hA:=hA.updN hX hU hBg hgg;replace hB:=hB.updN hX hU hBg hgg;replace hO:=hO.updN hX hU hBg hgg;clear hU hBg N67 N60 N66;refine zAi (zN (K5 [6,7,9,10,46,47] ?_));refine rJ fun K=>K1 (zL rfl hNA fun v69 N69 => ?_);obtain ⟨n69,d69,rfl,hn69,hd69⟩:=N69;have N69:IsNum _ (.agg #[.bool (decide (q<0)),n69,d69]) q:=⟨_,_,rfl,hn69,hd69⟩;clear hn69 hd69
         refine K1 (zR (cs:=[.bool (decide (q<0)),n69,d69]) zAV info37' (by decide) (by decide) (by kernel_rfl) fun sb w10 hb hE hBb hs => ?_);replace E0:=E0.trans hE;replace hA:=hA.ext hE;replace hB:=hB.ext hE;replace hO:=hO.ext hE;replace N69:=N69.ext hE;replace hNA:=hNA.ext hE;clear hE hb hs;refine K1 (runs_append_numY hO rfl hBb N69 (by omega) E0.size fun v71 w11 hY hO2 => ?_);replace E0:=hY.ext hO (Nat.le_refl _) E0;replace hA:=hA.app hY;replace hB:=hB.app hY;replace hNA:=hY.num hNA (fun b n k e=>by have:=hAn b n k e;omega);clear hO hY hBb N69;have hO:=hO2;clear hO2;refine ag (rm [6,7,9,10,46,47] K ?_);refine rI fun K=>mv (mv (K1 (zj (cs := #[.bool false,.slice none 0 0,.slice none 0 0]) (by kernel_rfl) (K1 (zL rfl hNA fun v76 N76 => ?_)))));obtain ⟨n76,d76,rfl,hn76,hd76⟩:=N76;have N76:IsNum _ (.agg #[.bool (decide (q<0)),n76,d76]) q:=⟨_,_,rfl,hn76,hd76⟩;clear hn76 hd76;refine K1 (zR (cs:=[.bool false,.slice none 0 0,.slice none 0 0,.bool (decide (q<0)),n76,d76]) zAV info37' (by decide) (by decide) (by kernel_rfl) fun sb w10 hb hE hBb hs => ?_);replace E0:=E0.trans hE;replace hA:=hA.ext hE;replace hB:=hB.ext hE;replace hO:=hO.ext hE;replace N76:=N76.ext hE;clear hE hb hs hNA;have hL:=IsNum.pair hBb IsNum.zero N76;clear hBb N76
         refine K1 (j3 E0 hA.ext hB.ext hO.ext hb71 (zDx hB.poly hL hm1) fun v78 w2 E0 hA hB hO N78 => ?_);have N78:=N78.poly;clear hL;refine K1 (zC hb70 (CallK.of_ret (zHW hA.poly N78 hc1) fun v79 w12 hE9 N79 => ?_) rfl);replace E0:=E0.trans hE9;replace hB:=hB.ext hE9;clear hA N78;refine ag (ag (rl K (zT (zN (K5 [6,7,9,46,47] ?_)))));refine K6 fun K=>K1 (zy (b:=1) (O.length+1) rfl rfl rfl (by omega) (mv (rl K (zV ?_))));exact ⟨rfl,m,⟨_,_,_,B,c,O++[q],⟨rfl,rfl,rfl,rfl,rfl,rfl,rfl,rfl,rfl,congrArg (fun z:Nat=>Value.int .i64 (z:Int)) (by simp),trivial⟩,hB,N79.off hO (Nat.le_refl _),hO.ext hE9,E0,⟨M2,hM2,hFo⟩,by omega,by simp;omega⟩,by omega⟩
 · unfold zEG at h;rw [if_pos (by rw [e];decide),e] at h;obtain rfl:=Option.some.inj h;rw [e];clear h;refine rI fun K=>K8 rfl (rs [0,4,14] K ?_);refine wct rfl (rJ fun K=>ag (ag (rm [2,3] K ?_)));exact zE (zY (zQ ⟨rfl,_,zn rfl rfl rfl,E0,_,rfl,IsOwn.nil⟩))
 · unfold zEG at h;rw [if_pos (by rw [e];decide),e] at h;obtain rfl:=Option.some.inj h;rw [e];clear h;refine rI fun K=>K8 rfl (rs [0,4,14] K ?_);refine wct rfl (rJ fun K=>ag (ag (rm [2,3] K ?_)));exact zE (zY (zQ ⟨rfl,_,zn rfl rfl rfl,E0,_,rfl,IsOwn.nil⟩))
theorem zKD {p:Poly} {R:Poly×Int} (hp:zM w v p) (h:zLk p=some R):Ret prog 17 #[v] w (fun r w'=>∃ u,r = .tuple #[u,.int .i64 R.2]∧IsOwn w.heap.size w' u R.1):=by
 have E0:Ext w w:=Ext.refl w;refine J0 26 func17 rfl (rj fun K=>ag (ag (rm [0] K ?_)));refine zA ?_;unfold zLk at h;obtain ⟨rt,h1,h⟩:=bind_some h;refine rI fun K=>K1 (j1 E0 hp.ext hb72 (zLR hp h1) fun vi w2 E0 hp hr => ?_);obtain ⟨rfl,hb1,hb2⟩:=hr;refine mv (xt rfl (xt rfl (xt rfl (ag (ag (ag (rs [0,4,5,6] K ?_)))))));refine zA (zG (rJ fun K=>K8 rfl (ag (rm [0,4,5,6,13] K ?_))));refine K0 rfl ?_ ?_<;>intro hc
 · have he:rt.2.2≠0:=bne_iff_ne.1 hc;clear hc;rw [if_pos he] at h;obtain rfl:=Option.some.inj h;refine rJ fun K=>ag (ag (rm [2,3] K ?_));exact zE (zh (zY (zQ ⟨rfl,_,zn rfl rfl rfl,E0,_,rfl,IsOwn.nil⟩)))
 · have he:rt.2.2=0:=bne_eq_false_iff_eq.1 hc;clear hc;rw [if_neg (by omega)] at h;refine rJ fun K=>mv (K1 (zH (v := .int .i64 (rt.1+rt.2.1)) rfl rfl (congrArg (fun z=>some (Value.int .i64 z)) (zAG (by omega) (by omega))) (K8 rfl (ag (rm [0,17] K ?_)))));refine K0 rfl ?_ ?_<;>intro hc
   · have hl:0<rt.1+rt.2.1:=of_decide_eq_true hc;clear hc;rw [if_pos hl] at h;obtain rfl:=Option.some.inj h;refine rj fun K=>ag (ag (rm [2,3] K ?_));exact zE (zh (zY (zQ ⟨rfl,_,zn rfl rfl rfl,E0,_,rfl,IsOwn.nil⟩)))
   · have hl:¬ 0<rt.1+rt.2.1:=of_decide_eq_false hc;clear hc;rw [if_neg hl] at h;refine zz (zT (zN (rj fun K=>mv ?_)));have hsz:=E0.size;refine K1 (j0 E0 hb16 (zFS hp h) fun v23 w2 E0 hr => ?_);obtain ⟨u,rfl,hu⟩:=hr;refine xt rfl (xt rfl (ag (ag (rm [2,3] K ?_))));exact zE (zQ ⟨rfl,_,zn rfl rfl rfl,E0,_,rfl,hu.sz hsz⟩)
end Go.Proofs.YtjiendlfobjanaaGreatDoor
namespace Go.Proofs.YtjiendlfobjanaaGreatDoor
open Go Go.RowKit Go.Proofs Tryz
set_option maxRecDepth 10000
set_option maxHeartbeats 2000000
variable {E a b c i ix len n o:Nat} {P:Program} {T T' ty:TypeId} {af:Array Edge} {cs cs':List Value} {g:Option (Nat×Bool)} {l:List Rat} {pos:String} {r:Option Nat} {v:Value} {w w':World} {x:Operand} {σ:Operand→Value}
section laws
variable {K:Value→World→Prop} {d:Option Tmp}
def ArrOf (P:Program) (T len E n:Nat):Prop:=P.underlying T=some (.array len E)∧(P.info? E).map (·.size)=some n
theorem zq {T:Nat} {i:Operand} {k:IntKind} {ix:Int} (hT:ArrOf P T len E n) (hx:σ x = .pointer (some ⟨b,o,none⟩)) (hi:σ i = .int k ix) (h0:0≤ix) (h1:ix<len)
 (hk:K (.pointer (some ⟨b,o+ix.toNat*n,none⟩)) w):Runs P r ⟨d,.indexAddr T x i,ty,pos,af,g⟩ σ w K:=by
 refine zl (fun _ e=>by cases e) ?_ hk;simp [execOp,Instr.indexAt,run_underlying hT.1,hx,hi,asIntOf,h0,h1,run_sizeOf' hT.2,zAk,Instr.sureAddr]
theorem zBf {T:Nat} {i:Operand} {cs:Array Value} {k:IntKind} (hT:ArrOf P T len E 1) (hE:Plain P E) (hx:σ x = .agg cs) (hi:σ i = .int k (ix:Int)) (h1:ix<len) (hv:cs[ix]? = some v)
 (hk:K v w):Runs P r ⟨d,.index T x i,ty,pos,af,g⟩ σ w K:=by
 refine zl (fun _ e=>by cases e) ?_ hk;have h2:((ix:Nat):Int)<(len:Int):=by omega
 have h3:(0:Int)≤(ix:Int):=by omega
 simp [execOp,Instr.index,run_underlying hT.1,hx,hi,asIntOf,h2,run_sizeOf' hT.2,part,hE.isAgg,hv,h1]
end laws
theorem zDe:ArrOf prog 245 2 25 1:=by unfold ArrOf;exact ⟨by kernel_rfl,by kernel_rfl⟩
theorem zLM:(prog.info? 245).bind (·.zero)=some (.agg #[.slice none 0 0,.slice none 0 0]):=by kernel_rfl
theorem zLJ:(prog.info? 245).map (·.size)=some 2:=by kernel_rfl
theorem aggr245:Aggr prog 245 2:=by unfold Aggr;exact ⟨by kernel_rfl,by kernel_rfl⟩
theorem Blk.neT (h:Blk w a T cs) (k:Blk w b T' cs') (hT:T≠T'):a≠b:=fun e=>by
 subst e;unfold Blk at h k;rw [h] at k;cases k;exact hT rfl
theorem PBlk.updT (h:PBlk w b l) (hu:Upd c w w') (hc:Blk w c T cs) (h1:T≠37) (h2:T≠164):PBlk w' b l:=by
 obtain ⟨ds,e1,e2,e3⟩:=h;exact ⟨ds,e1.upd hu (e1.neT hc (Ne.symm h1)),e2,fun i hi=>(e3 i hi).updT hu hc h2⟩
theorem PBlk.ne (h:PBlk w b l) (hc:Blk w c T cs) (h1:T≠37):b≠c:=by
 obtain ⟨ds,e1,_⟩:=h;exact e1.neT hc (Ne.symm h1)
def fillL (P:Nat→Bool) (q:Poly) (i:Nat):Poly:=q.mapIdx fun k c=>if k<i∧P k=true then c else 0
theorem zBW {P:Nat→Bool} {q:Poly}:(fillL P q i).length=q.length:=by unfold fillL;simp
theorem zIp {P:Nat→Bool} {q:Poly}:fillL P q 0=List.replicate q.length 0:=by
 unfold fillL;apply List.ext_getElem (by simp);intro k h1 h2;simp
theorem zLd {P:Nat→Bool} {q:Poly} (h:P i=false):fillL P q (i+1)=fillL P q i:=by
 unfold fillL;apply List.ext_getElem (by simp);intro k h1 h2;simp only [List.getElem_mapIdx];by_cases e:k=i
 · subst e;rw [if_neg (by simp [h]),if_neg (by simp [h])]
 · by_cases e2:k<i∧P k=true
   · rw [if_pos e2,if_pos ⟨by omega,e2.2⟩]
   · rw [if_neg e2,if_neg (fun h=>e2 ⟨by omega,h.2⟩)]
theorem zKR {P:Nat→Bool} {q:Poly} (h:P i=true):fillL P q (i+1)=(fillL P q i).set i (q.getD i 0):=by
 unfold fillL;apply List.ext_getElem (by simp);intro k h1 h2;rw [List.getElem_set];simp only [List.getElem_mapIdx];have hk:k<q.length:=by simpa using h1
 by_cases e:i=k
 · subst e;rw [if_pos rfl,if_pos ⟨by omega,h⟩];simp [hk]
 · rw [if_neg e];by_cases e2:k<i∧P k=true
   · rw [if_pos e2,if_pos ⟨by omega,e2.2⟩]
   · rw [if_neg e2,if_neg (fun h=>e2 ⟨by omega,h.2⟩)]
theorem zKQ {P:Nat→Bool} {q:Poly}:fillL P q q.length=q.mapIdx fun k c=>if P k=true then c else 0:=by
 unfold fillL;apply List.ext_getElem (by simp);intro k h1 h2;simp only [List.getElem_mapIdx];have:k<q.length:=by simpa using h1
 by_cases e:P k=true
 · rw [if_pos e,if_pos ⟨this,e⟩]
 · rw [if_neg e,if_neg (fun h=>e h.2)]
def turn4 (p:Poly):Poly:=p.mapIdx fun k c=>if 2≤k%4 then -c else c
theorem zAt {p:Poly}:(turn4 p).length=p.length:=by unfold turn4;simp
theorem zKu {p:Poly} (h:i<p.length):(turn4 p).getD i 0=if 2≤i%4 then -(p.getD i 0) else p.getD i 0:=by
 unfold turn4;simp [h]
theorem square_eq (p:Poly):zJJ p=(pmul (fillL (fun k=>decide (k%2=0)) (turn4 p) (turn4 p).length) (fillL (fun k=>decide (k%2=0)) (turn4 p) (turn4 p).length)).bind fun x =>
 (pmul (fillL (fun k=>decide (k%2=1)) (turn4 p) (turn4 p).length) (fillL (fun k=>decide (k%2=1)) (turn4 p) (turn4 p).length)).bind fun y=>padd x y:=by
 rw [zKQ,zKQ];have e1:(turn4 p).mapIdx (fun k c=>if k%2=0 then c else 0)=(turn4 p).mapIdx fun k c=>if decide (k%2=0)=true then c else 0:=by
  congr 1;funext k c;by_cases e:k%2=0<;>simp [e]
 have e2:(turn4 p).mapIdx (fun k c=>if k%2=0 then 0 else c)=(turn4 p).mapIdx fun k c=>if decide (k%2=1)=true then c else 0:=by
  congr 1;funext k c;rcases Nat.mod_two_eq_zero_or_one k with e | e<;>simp [e]
 rw [← e1,← e2];rfl
end Go.Proofs.YtjiendlfobjanaaGreatDoor
namespace Go.Proofs.YtjiendlfobjanaaGreatDoor
open Go Go.RowKit Go.Proofs Tryz
set_option maxRecDepth 10000
set_option maxHeartbeats 2000000
attribute [local irreducible] Runs WPE CallK Ret
variable {v:Value} {w:World}
theorem zIR {p s:Poly} (hp:zM w v p) (h:zJJ p=some s):Ret prog 75 #[v] w (fun r w'=>IsOwn w.heap.size w' r s):=by
 obtain ⟨pp,pc,rfl,hpc,hpP,hpl⟩:=hp;have E0:Ext w w:=Ext.refl w;refine J0 44 func75 rfl (rj fun K=>ag (rm [0] K ?_));refine zA ?_;rw [square_eq] at h;obtain ⟨x,h1,h⟩:=bind_some h;obtain ⟨y,h2,h3⟩:=bind_some h;clear h;refine zJP [2,5,7] [(6,fun σ=>(fun l => .agg l.toArray) ([8,11].map σ))] 8 [([(0,none)],none),([(6,some 0)],none),([(7,some 0),(7,some 0)],none),([(0,none)],none),([(9,some 0)],none),([(10,some 0),(10,some 0)],none),([(8,some 3),(11,some 0)],none),([],none)] mixed (by kernel_rfl) (by kernel_rfl) (by kernel_rfl) (by kernel_rfl) (by kernel_rfl) (fun i hi=>by simp [zCV] at hi;show i<8;omega) (zCe.cons [8,11] (fun l => .agg l.toArray) (by kernel_rfl) (zCe.nil)) fun K hK => ?_;refine dxv (by decide) (fun σ wx hE hk=>zF ⟨Ext.refl _,hk.1⟩) (dxv (by decide) (fun σ wx hE hk=>zJ zAA hk.1 ⟨Ext.refl _,rfl⟩) ?_);refine dxn (fun v w'=>∃ b,v = .slice (some ⟨b,0,none⟩) p.length p.length∧PBlk w' b (List.replicate p.length 0)∧w.heap.size≤b) (by decide) (fun _ _ _ _ hx h=>(let ⟨b,e,hB,hg⟩:=h;⟨b,e,hB.ext hx.toExt,hg⟩)) (fun σ wx hE hk=>zAg zAV zDT rfl hk.1 hk.1 (by omega) (by omega) (by omega) fun b w2 hb hX hB hs=>⟨hX,⟨b,rfl,PBlk.zeros hB,(by rw [hb];exact hE.size)⟩,Xtra.new (by decide) fun c hc=>(by cases hc;exact ⟨Nat.le_of_eq hb.symm,by show b<_;omega⟩)⟩) ?_
 refine dxv (by decide) (fun σ wx hE hk=>zF ⟨Ext.refl _,hk.1⟩) (dxv (by decide) (fun σ wx hE hk=>zJ zAA hk.1 ⟨Ext.refl _,rfl⟩) ?_);refine dxn (fun v w'=>∃ b,v = .slice (some ⟨b,0,none⟩) p.length p.length∧PBlk w' b (List.replicate p.length 0)∧w.heap.size≤b) (by decide) (fun _ _ _ _ hx h=>(let ⟨b,e,hB,hg⟩:=h;⟨b,e,hB.ext hx.toExt,hg⟩)) (fun σ wx hE hk=>zAg zAV zDT rfl hk.1 hk.1 (by omega) (by omega) (by omega) fun b w2 hb hX hB hs=>⟨hX,⟨b,rfl,PBlk.zeros hB,(by rw [hb];exact hE.size)⟩,Xtra.new (by decide) fun c hc=>(by cases hc;exact ⟨Nat.le_of_eq hb.symm,by show b<_;omega⟩)⟩) ?_;refine dxn (fun _ _=>True) (by decide) (fun _ _ _ _ _ h=>h) (fun σ wx hE hk=>(by obtain ⟨y1,e1,-⟩:=hk.1;obtain ⟨y2,e2,-⟩:=hk.2.1;refine zj (cs := #[.slice (some ⟨y1,0,none⟩) p.length p.length,.slice (some ⟨y2,0,none⟩) p.length p.length]) ?_ ⟨Ext.refl _,trivial,Xtra.one (by decide) (by show _=Value.agg #[σ 8,σ 11];rw [e1,e2])⟩;show prog.built 245 [(0,σ 8),(1,σ 11)]=_;rw [e1,e2];kernel_rfl)) ?_
 refine dxn (fun v w'=>∃ b,v = .pointer (some ⟨b,0,none⟩)∧Blk w' b 245 [.slice none 0 0,.slice none 0 0]∧w.heap.size≤b) (by decide) (fun _ _ _ _ hx h=>(let ⟨b,e,hB,hg⟩:=h;⟨b,e,hB.ext hx.toExt,hg⟩)) (fun σ wx hE hk=>zK zLM fun b w2 hb hX hB hs=>⟨hX,⟨b,rfl,hB,(by rw [hb];exact hE.size)⟩,Xtra.new (by decide) fun c hc=>(by cases hc;exact ⟨Nat.le_of_eq hb.symm,by show b<_;omega⟩)⟩) ?_;refine zMr (hK _ fun wq hE => ?_);rintro _ rfl _ rfl v8 N8 _ rfl _ rfl v11 N11 v12 N12 v3 N3;refine zU ?_;intro hsep;replace E0:=E0.trans hE;clear hE;obtain ⟨b1,rfl,hP1,hg1⟩:=N8;obtain ⟨b2,rfl,hP2,hg2⟩:=N11;obtain ⟨cb,rfl,hBc,hgc⟩:=N3;have e12:v12 = .agg #[.slice (some ⟨b1,0,none⟩) p.length p.length,.slice (some ⟨b2,0,none⟩) p.length p.length]:=hsep.2 6 _ (List.mem_singleton.2 rfl) 12 rfl;subst e12;have hne:b1≠b2:=fun e=>hsep.1 2 (by decide) 5 (by decide) (by decide) 8 11 rfl rfl b1 rfl (by rw [e];rfl);clear hsep N12;refine K1 (zZ zLJ rfl hBc rfl (Nat.le_of_ble_eq_true rfl) (by decide) rfl fun w9 hU hN => ?_);replace E0:=E0.upd hU hgc;replace hP1:=hP1.updT hU hBc (by decide) (by decide);replace hP2:=hP2.updT hU hBc (by decide) (by decide);clear hU hBc;have hBc:=hN;clear hN;refine zAi (zN (K5 [0,3] ?_));refine zA (rJ fun K=>K1 (zJ zAA rfl (mv (rm [3,13,14,15] K ?_))));refine zG ?_
 refine zo (X:=Nat) (fun i ρ w'=>Keep ρ [(3,.pointer (some ⟨cb,0,none⟩)),(13,.slice pp p.length pc),(14,.int .i64 (p.length:Int)),(15,.int .i64 (i:Int))]∧i≤p.length∧Ext w w'∧Blk w' cb 245 [.slice (some ⟨b1,0,none⟩) p.length p.length,.slice (some ⟨b2,0,none⟩) p.length p.length]∧PBlk w' b1 (fillL (fun k=>decide (k%2=0)) (turn4 p) i)∧PBlk w' b2 (fillL (fun k=>decide (k%2=1)) (turn4 p) i)) (fun i=>p.length-i) 0 ⟨(kp rfl),Nat.zero_le _,E0,hBc,by rw [zIp,zAt];exact hP1,by rw [zIp,zAt];exact hP2⟩ ?_;clear E0 hBc hP1 hP2;rintro i ρ1 w1 ⟨hk,hil,E0,hBc,hP1,hP2⟩;refine wpe_k _ hk ?_;clear hk ρ1;refine rj fun K=>K8 rfl (rm [3,13,14,15,16] K ?_);refine zA ?_;refine K0 rfl ?_ ?_<;>intro hc
 · have hi:i<p.length:=t_lt hc;clear hc;refine sk (zA (zG (rJ fun K=>K1 (zAU (hpP.ext E0) rfl rfl hi (K1 (zAW (hpP.ext E0) hi rfl fun v19 N19 => ?_))))));refine K1 (zK zAP fun gb w7 hb hE hBg hs => ?_);have hgg:w.heap.size≤gb:=by rw [hb];exact E0.size
   have hn1:gb≠b1:=by have:=hP1.lt;omega
   have hn2:gb≠b2:=by have:=hP2.lt;omega
   have hn3:cb≠gb:=by have:=hBc.lt;omega
   have hgl:[Value.bool false,.slice none 0 0,.slice none 0 0].length=3:=rfl;replace E0:=E0.trans hE;replace N19:=N19.ext hE;replace hBc:=hBc.ext hE;replace hP1:=hP1.ext hE;replace hP2:=hP2.ext hE;clear hE hb hs;refine ag (K1 (zI rfl N19 (Cell3.of hBg hgl) fun _ w9 hU hNA => ?_));replace E0:=E0.upd hU hgg;replace hP1:=hP1.upd hU hBg (Ne.symm hn1);replace hP2:=hP2.upd hU hBg (Ne.symm hn2);replace hBc:=hBc.upd hU hn3;clear hU hBg;clear N19 hgl;refine rm [3,4,5,13,14,15] K ?_;refine zCJ (fun ρ w'=>∃ gb,Keep ρ [(3,.pointer (some ⟨cb,0,none⟩)),(4,.int .i64 (i:Int)),(5,.pointer (some ⟨gb,0,none⟩)),(13,.slice pp p.length pc),(14,.int .i64 (p.length:Int)),(15,.int .i64 (i:Int))]∧Ext w w'∧Blk w' cb 245 [.slice (some ⟨b1,0,none⟩) p.length p.length,.slice (some ⟨b2,0,none⟩) p.length p.length]∧PBlk w' b1 (fillL (fun k=>decide (k%2=0)) (turn4 p) i)∧PBlk w' b2 (fillL (fun k=>decide (k%2=1)) (turn4 p) i)∧NumAt gb ((turn4 p).getD i 0) w'∧w.heap.size≤gb) ?_ ?_
   · refine rJ fun K=>K1 (zAz (b:=4) (i%4) rfl rfl (by decide) rfl (K8 rfl (rm [3,4,5,13,14,15,22] K ?_)));refine K0 rfl ?_ ?_<;>intro hc
     · have h4:2≤i%4:=by have:=of_decide_eq_true hc;omega
       clear hc;refine K6 fun K=>K1 (zL rfl hNA fun v23 N23=>K1 (j4 E0 hNA.ext hP1.ext hP2.ext hBc.ext hb132 (zIb N23) fun v24 w2 E0 hNA hP1 hP2 hBc N24 => ?_));obtain ⟨gcs,hBg,hgl,-⟩:=hNA;refine K1 (zI rfl N24 (Cell3.of hBg hgl) fun _ w9 hU hNA => ?_);replace E0:=E0.upd hU hgg;replace hP1:=hP1.upd hU hBg (Ne.symm hn1);replace hP2:=hP2.upd hU hBg (Ne.symm hn2);replace hBc:=hBc.upd hU hn3;clear hU hBg
       try clear N24
       refine rl K (zV ?_);exact ⟨rfl,gb,(kp rfl),E0,hBc,hP1,hP2,by rw [zKu hi,if_pos h4];exact hNA,hgg⟩
     · have h4:¬ 2≤i%4:=by have:=of_decide_eq_false hc;omega
       clear hc;refine zz (zV ?_);exact ⟨rfl,gb,(kp rfl),E0,hBc,hP1,hP2,by rw [zKu hi,if_neg h4];exact hNA,hgg⟩
   · clear E0 hBc hP1 hP2 hNA hgg hn1 hn2 hn3 gb;rintro ρ2 w2 ⟨gb,hk,E0,hBc,hP1,hP2,hNA,hgg⟩;refine wpe_k _ hk ?_;clear hk ρ2;rcases Nat.mod_two_eq_zero_or_one i with hpar | hpar
     · skip
       refine zAN 7 [([(4,none)],none),([(25,some 0)],none),([(3,none),(26,some 0)],none),([(27,some 0)],none),([(4,none)],none),([(5,none)],none),([(28,some 2),(29,some 1)],none)] mixed (by kernel_rfl) (by kernel_rfl) (by kernel_rfl) (by kernel_rfl) (by kernel_rfl) fun K hK=>dvp (fun σ wx hE hk=>zF ⟨Ext.refl _,hk.1⟩) (dvp (fun σ wx hE hk=>zAz (b:=2) (0) hk.1 rfl (by decide) hpar ⟨Ext.refl _,rfl⟩) (dcp (fun v _=>v = .pointer (some ⟨cb,0,none⟩)) (fun _ _ _ _ _ h=>h) (fun σ wx hE hk=>zq zDe hk.1 hk.2.1 (by decide) (by decide) ⟨Ext.refl _,rfl⟩) (dcp (fun v _=>v = .slice (some ⟨b1,0,none⟩) p.length p.length) (fun _ _ _ _ _ h=>h) (fun σ wx hE hk=>zD zBQ hk.1 (hBc.ext hE) rfl ⟨Ext.refl _,rfl⟩) (dvp (fun σ wx hE hk=>zF ⟨Ext.refl _,hk.1⟩) (dcp (fun v w'=>IsNum w' v ((turn4 p).getD i 0)) (fun _ _ _ _ hx h=>h.ext hx.toExt) (fun σ wx hE hk=>zL hk.1 (hNA.ext hE) fun v h=>⟨Ext.refl _,h⟩) (dcp (fun v _=>v = .pointer (some ⟨b1,3*i,none⟩)) (fun _ _ _ _ _ h=>h) (fun σ wx hE hk=>zBH hk.1 hk.2.1 hi ⟨Ext.refl _,rfl⟩) (zAR (hK _ fun wq hE => ?_))))))));rintro _ rfl _ rfl v27 N27 v28 N28 _ rfl v30 N30 v31 N31;refine zU ?_;replace E0:=E0.trans hE;replace hBc:=hBc.ext hE;replace hP1:=hP1.ext hE;replace hP2:=hP2.ext hE;replace hNA:=hNA.ext hE;clear hE;subst N27;subst N28;subst N31
       refine K1 (zBD (k:=i) rfl rfl N30 hP1 (by rw [zBW,zAt];exact hi) fun v w2 hU hN => ?_);replace E0:=E0.upd hU hg1;replace hBc:=hBc.upd hU (Ne.symm (hP1.ne hBc (by decide)));replace hP2:=(let ⟨cs,e1,_⟩:=hP1;hP2.upd hU e1 (Ne.symm hne));clear hU hP1 N30;have hP1:=hN;clear hN;rw [← zKR (by simp [hpar])] at hP1;rw [← zLd (P:=(fun k=>decide (k%2=1))) (q:=turn4 p) (i:=i) (by simp [hpar])] at hP2;refine zAi (zT (zN (K5 [3,4,5,13,14,15] ?_)));exact K6 fun K=>K1 (zy (b:=1) (i+1) rfl rfl rfl (by omega) (mv (rl K (zV (⟨rfl,i+1,⟨(kp rfl),by omega,E0,hBc,hP1,hP2⟩,by omega⟩)))))
     · skip
       refine zAN 7 [([(4,none)],none),([(25,some 0)],none),([(3,none),(26,some 0)],none),([(27,some 0)],none),([(4,none)],none),([(5,none)],none),([(28,some 2),(29,some 1)],none)] mixed (by kernel_rfl) (by kernel_rfl) (by kernel_rfl) (by kernel_rfl) (by kernel_rfl) fun K hK=>dvp (fun σ wx hE hk=>zF ⟨Ext.refl _,hk.1⟩) (dvp (fun σ wx hE hk=>zAz (b:=2) (1) hk.1 rfl (by decide) hpar ⟨Ext.refl _,rfl⟩) (dcp (fun v _=>v = .pointer (some ⟨cb,1,none⟩)) (fun _ _ _ _ _ h=>h) (fun σ wx hE hk=>zq zDe hk.1 hk.2.1 (by decide) (by decide) ⟨Ext.refl _,rfl⟩) (dcp (fun v _=>v = .slice (some ⟨b2,0,none⟩) p.length p.length) (fun _ _ _ _ _ h=>h) (fun σ wx hE hk=>zD zBQ hk.1 (hBc.ext hE) rfl ⟨Ext.refl _,rfl⟩) (dvp (fun σ wx hE hk=>zF ⟨Ext.refl _,hk.1⟩) (dcp (fun v w'=>IsNum w' v ((turn4 p).getD i 0)) (fun _ _ _ _ hx h=>h.ext hx.toExt) (fun σ wx hE hk=>zL hk.1 (hNA.ext hE) fun v h=>⟨Ext.refl _,h⟩) (dcp (fun v _=>v = .pointer (some ⟨b2,3*i,none⟩)) (fun _ _ _ _ _ h=>h) (fun σ wx hE hk=>zBH hk.1 hk.2.1 hi ⟨Ext.refl _,rfl⟩) (zAR (hK _ fun wq hE => ?_))))))));rintro _ rfl _ rfl v27 N27 v28 N28 _ rfl v30 N30 v31 N31;refine zU ?_;replace E0:=E0.trans hE;replace hBc:=hBc.ext hE;replace hP1:=hP1.ext hE;replace hP2:=hP2.ext hE;replace hNA:=hNA.ext hE;clear hE;subst N27;subst N28;subst N31
       refine K1 (zBD (k:=i) rfl rfl N30 hP2 (by rw [zBW,zAt];exact hi) fun v w2 hU hN => ?_);replace E0:=E0.upd hU hg2;replace hBc:=hBc.upd hU (Ne.symm (hP2.ne hBc (by decide)));replace hP1:=(let ⟨cs,e1,_⟩:=hP2;hP1.upd hU e1 hne);clear hU hP2 N30;have hP2:=hN;clear hN;rw [← zKR (by simp [hpar])] at hP2;rw [← zLd (P:=(fun k=>decide (k%2=0))) (q:=turn4 p) (i:=i) (by simp [hpar])] at hP1;refine zAi (zT (zN (K5 [3,4,5,13,14,15] ?_)));exact K6 fun K=>K1 (zy (b:=1) (i+1) rfl rfl rfl (by omega) (mv (rl K (zV (⟨rfl,i+1,⟨(kp rfl),by omega,E0,hBc,hP1,hP2⟩,by omega⟩)))))
 · obtain rfl:i=p.length:=by have:=f_lt hc;omega
   clear hc;refine zi (zAE (zv (zP (zN (zA ?_)))));have hA1:zM _ (.slice (some ⟨b1,0,none⟩) p.length p.length) (fillL (fun k=>decide (k%2=0)) (turn4 p) p.length):=⟨_,p.length,by rw [zBW,zAt],by rw [zBW,zAt];exact Nat.le_refl _,hP1.rd,by rw [zBW,zAt];exact hpl⟩;have hA2:zM _ (.slice (some ⟨b2,0,none⟩) p.length p.length) (fillL (fun k=>decide (k%2=1)) (turn4 p) p.length):=⟨_,p.length,by rw [zBW,zAt],by rw [zBW,zAt];exact Nat.le_refl _,hP2.rd,by rw [zBW,zAt];exact hpl⟩;rw [zAt] at h1 h2
   refine zAc [([(3,none)],none),([(33,some 0)],none),([(3,none)],none),([(35,some 0)],none),([(34,some 2),(36,some 0)],none),([(3,none)],none),([(38,some 0)],none),([(3,none)],none),([(40,some 0)],none),([(39,some 2),(41,some 0)],none),([(37,some 5),(42,some 0)],none),([(43,some 0)],none)] mixed (by kernel_rfl) (by kernel_rfl) (by kernel_rfl) fun K hK=>dcp (fun v _=>v = .pointer (some ⟨cb,0,none⟩)) (fun _ _ _ _ _ h=>h) (fun σ wx hE hk=>zq (ix:=0) zDe hk.1 rfl (by decide) (by decide) ⟨Ext.refl _,rfl⟩) (dcp (fun v _=>v = .slice (some ⟨b1,0,none⟩) p.length p.length) (fun _ _ _ _ _ h=>h) (fun σ wx hE hk=>zD zBQ hk.1 (hBc.ext hE) rfl ⟨Ext.refl _,rfl⟩) (dcp (fun v _=>v = .pointer (some ⟨cb,0,none⟩)) (fun _ _ _ _ _ h=>h) (fun σ wx hE hk=>zq (ix:=0) zDe hk.1 rfl (by decide) (by decide) ⟨Ext.refl _,rfl⟩) (dcp (fun v _=>v = .slice (some ⟨b1,0,none⟩) p.length p.length) (fun _ _ _ _ _ h=>h) (fun σ wx hE hk=>zD zBQ hk.1 (hBc.ext hE) rfl ⟨Ext.refl _,rfl⟩) (dcp (fun v w'=>zM w' v x) (fun _ _ _ _ hx h=>h.ext hx.toExt) (fun σ wx hE hk=>zC hb71 (CallK.eq2 hk.1 hk.2.1 (CallK.of_ret (zDx (hA1.ext hE) (hA1.ext hE) h1) fun v w2 hX hr=>⟨hX,hr.poly⟩)) rfl) (dcp (fun v _=>v = .pointer (some ⟨cb,1,none⟩)) (fun _ _ _ _ _ h=>h) (fun σ wx hE hk=>zq (ix:=1) zDe hk.1 rfl (by decide) (by decide) ⟨Ext.refl _,rfl⟩) (dcp (fun v _=>v = .slice (some ⟨b2,0,none⟩) p.length p.length) (fun _ _ _ _ _ h=>h) (fun σ wx hE hk=>zD zBQ hk.1 (hBc.ext hE) rfl ⟨Ext.refl _,rfl⟩) (dcp (fun v _=>v = .pointer (some ⟨cb,1,none⟩)) (fun _ _ _ _ _ h=>h) (fun σ wx hE hk=>zq (ix:=1) zDe hk.1 rfl (by decide) (by decide) ⟨Ext.refl _,rfl⟩) (dcp (fun v _=>v = .slice (some ⟨b2,0,none⟩) p.length p.length) (fun _ _ _ _ _ h=>h) (fun σ wx hE hk=>zD zBQ hk.1 (hBc.ext hE) rfl ⟨Ext.refl _,rfl⟩) (dcp (fun v w'=>zM w' v y) (fun _ _ _ _ hx h=>h.ext hx.toExt) (fun σ wx hE hk=>zC hb71 (CallK.eq2 hk.1 hk.2.1 (CallK.of_ret (zDx (hA2.ext hE) (hA2.ext hE) h2) fun v w2 hX hr=>⟨hX,hr.poly⟩)) rfl) (dcp (fun v w'=>IsOwn w.heap.size w' v s) (fun _ _ _ _ hx h=>h.ext hx.toExt) (fun σ wx hE hk=>zC hb149 (CallK.of_ret (zHV hk.1 hk.2.1 h3) fun v w2 hX hr=>⟨hX,(hr.sz (Nat.le_trans E0.size hE.size))⟩) rfl) (dcp (fun v w'=>IsOwn w.heap.size w' v s) (fun _ _ _ _ hx h=>h.ext hx.toExt) (fun σ wx hE hk=>zp ⟨Ext.refl _,hk.1⟩) (zAR (hK _ fun wq hE => ?_)))))))))))))
   rintro v33 N33 v34 N34 v35 N35 v36 N36 v37 N37 v38 N38 v39 N39 v40 N40 v41 N41 v42 N42 v43 N43 v2 N2;refine zU ?_;replace E0:=E0.trans hE;clear hE;refine zN (K5 [2,3,13,14,15] ?_);exact zE (en rfl E0 N2)
end Go.Proofs.YtjiendlfobjanaaGreatDoor
namespace Go.Proofs.YtjiendlfobjanaaGreatDoor
open Go Go.RowKit Go.Proofs Tryz
set_option maxRecDepth 10000
set_option maxHeartbeats 2000000
variable {B:Band} {T:TypeId} {b c n:Nat} {cs:List Value} {l:List Rat} {low up:Poly} {v:Value} {w w' w1 w2:World}
def BandC (w:World) (c:List Value) (B:Band):Prop :=
 IsNum w (.agg ((c.drop 0).take 3).toArray) B.lo∧IsNum w (.agg ((c.drop 3).take 3).toArray) B.hi∧IsNum w (.agg ((c.drop 6).take 3).toArray) B.least∧IsNum w (.agg ((c.drop 9).take 3).toArray) B.most
def zIa (w:World) (v:Value) (B:Band):Prop:=∃ c:List Value,v = .agg c.toArray∧c.length=12∧BandC w c B
theorem BandC.ext {c:List Value} (h:BandC w c B) (hx:Ext w w'):BandC w' c B:=⟨h.1.ext hx,h.2.1.ext hx,h.2.2.1.ext hx,h.2.2.2.ext hx⟩
theorem BandC.updT {c:List Value} (h:BandC w c B) (hu:Upd b w w') (hb:Blk w b T cs) (hT:T≠164):BandC w' c B :=
 ⟨h.1.updT hu hb hT,h.2.1.updT hu hb hT,h.2.2.1.updT hu hb hT,h.2.2.2.updT hu hb hT⟩
theorem zFV:zt prog 144 0 0:=by unfold zt;kernel_rfl
theorem zMv:zt prog 144 1 6:=by unfold zt;kernel_rfl
theorem zMw:zt prog 144 2 9:=by unfold zt;kernel_rfl
theorem zJX:Aggr prog 144 12:=by unfold Aggr;exact ⟨by kernel_rfl,by kernel_rfl⟩
theorem aggr47:Aggr prog 47 6:=by unfold Aggr;exact ⟨by kernel_rfl,by kernel_rfl⟩
theorem BandC.span {c:List Value} (h:BandC w c B) (hl:c.length=12):zw w (.agg ((c.drop 0).take 6).toArray) B.lo B.hi:=by
 obtain ⟨h1,h2,_⟩:=h
 match c,hl with
 | [c0,c1,c2,c3,c4,c5,c6,c7,c8,c9,c10,c11],_ =>
  obtain ⟨n1,d1,e1,hn1,hd1⟩:=h1;obtain ⟨n2,d2,e2,hn2,hd2⟩:=h2;cases e1;cases e2;exact ⟨_,_,_,_,rfl,⟨_,_,rfl,hn1,hd1⟩,⟨_,_,rfl,hn2,hd2⟩⟩
theorem BandC.ok {c:List Value} (h:BandC w c B) (hl:c.length=12):c.all zBl=true:=by
 obtain ⟨h1,h2,h3,h4⟩:=h
 match c,hl with
 | [c0,c1,c2,c3,c4,c5,c6,c7,c8,c9,c10,c11],_ =>
  have key:∀ {a b c:Value} {q:Rat},IsNum w (.agg #[a,b,c]) q→zBl a=true∧zBl b=true∧zBl c=true:=fun {a b c q} h=>by
   obtain ⟨n,d,e,hn,hd⟩:=h;obtain ⟨p1,ds1,k1,rfl,-⟩:=hn;obtain ⟨p2,ds2,k2,rfl,-⟩:=hd;cases e;exact ⟨rfl,rfl,rfl⟩
  have g1:=key h1;have g2:=key h2;have g3:=key h3;have g4:=key h4;simp [g1,g2,g3,g4]
theorem zM.updN (h:zM w v l) (hE:Ext w w1) (hU:Upd c w1 w2) (hB:Blk w1 c 37 cs) (hc:w.heap.size≤c):zM w2 v l:=by
 obtain ⟨p,k,h1,h2,h3,h4⟩:=h;exact ⟨p,k,h1,h2,(h3.ext hE).upd hU hB (h3.ne hc),h4⟩
theorem zIm {c:List Value} (h:c.length=n):(c.drop 0).take n=c:=by rw [List.drop_zero,List.take_of_length_le (by omega)]
theorem witN_some {lo w x:Rat} {f:Nat} (h:witN up low lo w (f+1) n=some x):∃ r,witJ up low lo w n (n+1) 0=some r∧(match r with | some y=>some y | none=>witN up low lo w f (2*n))=some x:=by
 unfold witN at h;exact bind_some h
end Go.Proofs.YtjiendlfobjanaaGreatDoor
namespace Go.Proofs.YtjiendlfobjanaaGreatDoor
open Go Go.RowKit Go.Proofs Tryz
set_option maxRecDepth 10000
set_option maxHeartbeats 2000000
attribute [local irreducible] Runs WPE CallK Ret
variable {B:Band} {low up:Poly} {u1 u2 v:Value} {w:World}
theorem zMH {num den:Poly} (hb:zIa w v B) (hp1:zM w u1 num) (hp2:zM w u2 den) (h:rules num den B.least B.most=some (up,low)):Ret prog 186 #[v,u1,u2] w (fun r w'=>∃ a c,r = .agg #[a,c]∧zM w' a up∧zM w' c low):=by
 obtain ⟨c,rfl,hcl,hC⟩:=hb;refine J0 26 func186 rfl (rj fun K => ?_);refine K1 (zk fun b1 w1 hb hE hB1 hs => ?_);have hgb1:w.heap.size≤b1:=by rw [hb];exact E0.size
 replace E0:=E0.trans hE;clear hE hs hb;refine K1 (zK zLM fun b2 w2 hb hE hB2 hs => ?_);have hgb2:w.heap.size≤b2:=by rw [hb];exact E0.size
 have ne_b1_b2:b1≠b2:=by have:=hB1.lt;omega
 replace E0:=E0.trans hE;replace hB1:=hB1.ext hE;clear hE hs hb;refine rm [1,2,3,6] K ?_;refine zA ?_;unfold rules at h;obtain ⟨n,h1,h⟩:=bind_some h;obtain ⟨d,h2,h⟩:=bind_some h;obtain ⟨x,h3,h⟩:=bind_some h;obtain ⟨up',h4,h⟩:=bind_some h;obtain ⟨y,h5,h⟩:=bind_some h;obtain ⟨low',h6,h⟩:=bind_some h;cases h;replace hB1:Blk _ b1 144 c:=hB1;replace hC:=hC.ext E0;replace hp1:=hp1.ext E0;replace hp2:=hp2.ext E0;refine rI fun K=>K1 (j4 E0 hB1.ext hB2.ext hC.ext hp2.ext hb75 (zIR hp1 h1) fun v10 w2 E0 hB1 hB2 hC hp2 N10 => ?_);have N10:=N10.poly;refine mv (K1 (j4 E0 hB1.ext hB2.ext hC.ext N10.ext hb75 (zIR hp2 h2) fun v12 w2 E0 hB1 hB2 hC N10 N12 => ?_));have N12:=N12.poly;have hM:=hC.2.2.2;have hL:=hC.2.2.1;clear hC hp1 hp2;refine ag (ag (rs [3,6,7,8] K ?_));refine zA ?_
 refine zJP [] [(12,fun σ=>(fun l => .agg l.toArray) ([18,24].map σ))] 13 [([(8,none)],none),([(3,none)],none),([(14,some 0)],none),([(13,some 2),(15,some 0)],none),([(7,none)],none),([(16,some 1),(17,some 0)],none),([(7,none)],none),([(8,none)],none),([(3,none)],none),([(21,some 0)],none),([(20,some 2),(22,some 0)],none),([(19,some 4),(23,some 0)],none),([(18,some 6),(24,some 0)],none)] mixed (by kernel_rfl) (by kernel_rfl) (by kernel_rfl) (by kernel_rfl) (by kernel_rfl) (fun i hi=>by simp [zCV] at hi;show i<13;omega) (zCe.cons [18,24] (fun l => .agg l.toArray) (by kernel_rfl) (zCe.nil)) fun K hK => ?_
 refine dxv (by decide) (fun σ wx hE hk=>zF ⟨Ext.refl _,hk.1⟩) (dxv (by decide) (fun σ wx hE hk=>zB zMw hk.1 ⟨Ext.refl _,rfl⟩) (dxp (fun v w'=>IsNum w' v B.most) (by decide) (fun _ _ _ _ hx h=>h.ext hx.toExt) (fun σ wx hE hk=>zAK hk.1 (hB1.ext hE) (by omega) (hM.ext hE) fun v h=>⟨Ext.refl _,h⟩) (dxp (fun v w'=>zM w' v x) (by decide) (fun _ _ _ _ hx h=>h.ext hx.toExt) (fun σ wx hE hk=>zC hb56 (CallK.of_ret (zDz (zM.of_eq hk.1 (N12.ext hE)) hk.2.1 h3) fun v w2 hX hr=>⟨hX,hr.poly⟩) rfl) (dxv (by decide) (fun σ wx hE hk=>zF ⟨Ext.refl _,hk.1⟩) (dxp (fun v w'=>zM w' v up) (by decide) (fun _ _ _ _ hx h=>h.ext hx.toExt) (fun σ wx hE hk=>zC hb70 (CallK.of_ret (zHW hk.1 (zM.of_eq hk.2.1 (N10.ext hE)) h4) fun v w2 hX hr=>⟨hX,hr.poly⟩) rfl) (dxv (by decide) (fun σ wx hE hk=>zF ⟨Ext.refl _,hk.1⟩) (dxv (by decide) (fun σ wx hE hk=>zF ⟨Ext.refl _,hk.1⟩) (dxv (by decide) (fun σ wx hE hk=>zB zMv hk.1 ⟨Ext.refl _,rfl⟩) (dxp (fun v w'=>IsNum w' v B.least) (by decide) (fun _ _ _ _ hx h=>h.ext hx.toExt) (fun σ wx hE hk=>zAK hk.1 (hB1.ext hE) (by omega) (hL.ext hE) fun v h=>⟨Ext.refl _,h⟩) (dxp (fun v w'=>zM w' v y) (by decide) (fun _ _ _ _ hx h=>h.ext hx.toExt) (fun σ wx hE hk=>zC hb56 (CallK.of_ret (zDz (zM.of_eq hk.1 (N12.ext hE)) hk.2.1 h5) fun v w2 hX hr=>⟨hX,hr.poly⟩) rfl) (dxp (fun v w'=>zM w' v low) (by decide) (fun _ _ _ _ hx h=>h.ext hx.toExt) (fun σ wx hE hk=>zC hb70 (CallK.of_ret (zHW (zM.of_eq hk.1 (N10.ext hE)) hk.2.1 h6) fun v w2 hX hr=>⟨hX,hr.poly⟩) rfl) ?_)))))))))))
 refine dxn (fun _ _=>True) (by decide) (fun _ _ _ _ _ h=>h) (fun σ wx hE hk=>(by obtain ⟨p1,k1,e1,-⟩:=hk.1;obtain ⟨p2,k2,e2,-⟩:=hk.2.1;refine zj (cs := #[.slice p1 up.length k1,.slice p2 low.length k2]) ?_ ⟨Ext.refl _,trivial,Xtra.one (by decide) (by show _=Value.agg #[σ 18,σ 24];rw [e1,e2])⟩;show prog.built 245 [(0,σ 18),(1,σ 24)]=_;rw [e1,e2];kernel_rfl)) ?_;refine zMr (hK _ fun wq hE => ?_);rintro _ rfl _ rfl v15 N15 v16 N16 _ rfl v18 N18 _ rfl _ rfl _ rfl v22 N22 v23 N23 v24 N24 v25 N25;refine zU ?_;intro hsep;replace E0:=E0.trans hE;replace hB1:=hB1.ext hE;replace hB2:=hB2.ext hE;clear hE;have e25:v25 = .agg #[v18,v24]:=hsep.2 12 _ (List.mem_singleton.2 rfl) 25 rfl;subst e25;clear hsep N25;obtain ⟨p1,k1,rfl,r1⟩:=N18;obtain ⟨p2,k2,rfl,r2⟩:=N24;have M1:zM _ (.slice p1 up.length k1) up:=⟨p1,k1,rfl,r1⟩;have M2:zM _ (.slice p2 low.length k2) low:=⟨p2,k2,rfl,r2⟩;clear r1 r2;refine K1 (zZ zLJ rfl hB2 rfl (Nat.le_of_ble_eq_true rfl) (by decide) rfl fun w9 hU hN => ?_);replace E0:=E0.upd hU hgb2;replace M1:=M1.updT hU hB2 (by decide) (by decide);replace M2:=M2.updT hU hB2 (by decide) (by decide);clear hU hB2;have hB2:=hN;clear hN;refine zAi (zN (K5 [6] ?_));exact zE (zQ ⟨rfl,_,zx rfl rfl rfl aggr245 hB2 rfl,E0,_,_,rfl,M1,M2⟩)
theorem zAp {x:Rat}:rsign x<0↔x<0:=by unfold rsign;rw [Int.sign_neg_iff,zDH]
theorem zDn {x:Rat}:rsign x=0↔x=0:=by unfold rsign;rw [Int.sign_eq_zero_iff_zero];exact Rat.num_eq_zero
theorem nsign_pos {x:Rat}:0<rsign x↔0<x:=by
 have h1 := @zAp x;have h2 := @zDn x;constructor
 · intro h;have a1:¬ x<0:=fun e=>by have:=h1.2 e;omega
   have a2:x≠0:=fun e=>by have:=h2.2 e;omega
   grind
 · intro h;have a1:¬ rsign x<0:=fun e=>by have:=h1.1 e;grind
   have a2:rsign x≠0:=fun e=>by have:=h2.1 e;grind
   omega
theorem zLo {x y:Rat} (h:x≠y):rcmpI x y≠0:=by
 unfold rcmpI;split
 · decide
 · first
   | (rw [if_neg h];decide)
   | decide
theorem nonneg_cases {p:Poly} {lo hi:Rat} {s:Bool} (h:zGz p lo hi=some s):(∃ a,peval p lo=some a∧a<0∧s=false)∨(∃ a b,peval p lo=some a∧peval p hi=some b∧¬ a<0∧b<0∧s=false) ∨
 (∃ a b,peval p lo=some a∧peval p hi=some b∧¬ a<0∧¬ b<0∧asked p≠0∧s=true) ∨
 (∃ a b l z n,peval p lo=some a∧peval p hi=some b∧¬ a<0∧¬ b<0∧asked p=0∧parts p=some l∧rcmp lo hi=some z∧zFx lo hi l 0=some n∧(if n=false then s=false else if z<0 then zKT p lo (p.length+1) hi=some s else s=true)):=by
 unfold zGz at h;obtain ⟨a,ha,h⟩:=bind_some h;split at h
 · next h0=>cases h;exact .inl ⟨a,ha,h0,rfl⟩
 · next h0 =>
   obtain ⟨b,hb,h⟩:=bind_some h;split at h
   · next h1=>cases h;exact .inr (.inl ⟨a,b,ha,hb,h0,h1,rfl⟩)
   · next h1 =>
     split at h
     · next h2=>cases h;exact .inr (.inr (.inl ⟨a,b,ha,hb,h0,h1,h2,rfl⟩))
     · next h2 =>
       obtain ⟨l,hl,h⟩:=bind_some h;obtain ⟨z,hz,h⟩:=bind_some h;obtain ⟨n,hn,h⟩:=bind_some h;refine .inr (.inr (.inr ⟨a,b,l,z,n,ha,hb,h0,h1,by simpa using h2,hl,hz,hn,?_⟩));split at h
       · next e=>rw [if_pos e];cases h;rfl
       · next e =>
         rw [if_neg e];split at h
         · next e2=>rw [if_pos e2];exact h
         · next e2=>rw [if_neg e2];cases h;rfl
theorem zKb {p:Poly} {lo hi:Rat} {s:Bool} (hp:zM w v p) (hx:IsNum w u1 lo) (hy:IsNum w u2 hi) (h:zGz p lo hi=some s):Ret prog 80 #[v,u1,u2] w (fun r _=>r = .bool s):=by
 obtain ⟨n1,d1,rfl,hn1,hd1⟩:=hx;obtain ⟨n2,d2,rfl,hn2,hd2⟩:=hy;have E0:Ext w w:=Ext.refl w;refine J0 94 func80 rfl (rj fun K => ?_);refine K1 (zk fun b1 w1 hb hE hB1 hs => ?_);have hgb1:w.heap.size≤b1:=by rw [hb];exact E0.size
 replace E0:=E0.trans hE;clear hE hs hb;refine K1 (zk fun b2 w2 hb hE hB2 hs => ?_);have hgb2:w.heap.size≤b2:=by rw [hb];exact E0.size
 have ne_b1_b2:b1≠b2:=by have:=hB1.lt;omega
 replace E0:=E0.trans hE;replace hB1:=hB1.ext hE;clear hE hs hb;refine ag (rm [0,4,5] K ?_);refine zA (zA ?_);rcases nonneg_cases h with ⟨a,ha,ha0,rfl⟩ | ⟨a,b,ha,hb,ha0,hb0,rfl⟩ | ⟨a,b,ha,hb,ha0,hb0,h0,rfl⟩ | ⟨a,b,l,z,n,ha,hb,ha0,hb0,h0,hl,hz,hn,hs⟩
 · clear h;have hLo:NumAt b1 lo _:=⟨_,hB1,rfl,IsNum.ext (show IsNum w (.agg #[.bool (decide (lo<0)),n1,d1]) lo from ⟨n1,d1,rfl,hn1,hd1⟩) E0⟩;have hHi:NumAt b2 hi _:=⟨_,hB2,rfl,IsNum.ext (show IsNum w (.agg #[.bool (decide (hi<0)),n2,d2]) hi from ⟨n2,d2,rfl,hn2,hd2⟩) E0⟩;clear hB1 hB2 hn1 hd1 hn2 hd2 ne_b1_b2;refine rI fun K=>K1 (zL rfl hLo fun v16 N16=>K1 (j2 E0 hLo.ext hHi.ext hb176 (zBy (hp.ext E0) N16 ha) fun v17 w2 E0 hLo hHi N17=>K1 (j2 E0 hLo.ext hHi.ext hb19 (zAY N17) fun vi w2 E0 hLo hHi hr => ?_)));subst hr;refine K9 true rfl (decide_eq_true (zAp.2 ha0)) (mv (K3 (K3 (K3 (K3 (K3 (pc0 rfl (rs [0,4,5,26] K ?_))))))));refine wct rfl (rj fun K=>ag (rm [4,5,6] K ?_));exact zE (zY (en rfl E0 rfl))
 · clear h;have hLo:NumAt b1 lo _:=⟨_,hB1,rfl,IsNum.ext (show IsNum w (.agg #[.bool (decide (lo<0)),n1,d1]) lo from ⟨n1,d1,rfl,hn1,hd1⟩) E0⟩;have hHi:NumAt b2 hi _:=⟨_,hB2,rfl,IsNum.ext (show IsNum w (.agg #[.bool (decide (hi<0)),n2,d2]) hi from ⟨n2,d2,rfl,hn2,hd2⟩) E0⟩;clear hB1 hB2 hn1 hd1 hn2 hd2 ne_b1_b2;refine rI fun K=>K1 (zL rfl hLo fun v16 N16=>K1 (j2 E0 hLo.ext hHi.ext hb176 (zBy (hp.ext E0) N16 ha) fun v17 w2 E0 hLo hHi N17=>K1 (j2 E0 hLo.ext hHi.ext hb19 (zAY N17) fun vi w2 E0 hLo hHi hr => ?_)));subst hr;refine K9 false rfl (decide_eq_false (fun e=>ha0 (zAp.1 e))) (mv (K7 (K2 (zL rfl hHi fun v22 N22=>K2 (j2 E0 hLo.ext hHi.ext hb176 (zBy (hp.ext E0) N22 hb) fun v23 w2 E0 hLo hHi N23=>K2 (j2 E0 hLo.ext hHi.ext hb19 (zAY N23) fun vi w2 E0 hLo hHi hr => ?_))))));subst hr;refine K2 (zH (v := .bool true) rfl rfl (congrArg (fun z=>some (Value.bool z)) (decide_eq_true (zAp.2 hb0))) (pc0 rfl (rs [0,4,5,26] K ?_)));refine wct rfl (rj fun K=>ag (rm [4,5,6] K ?_));exact zE (zY (en rfl E0 rfl))
 · clear h;have hLo:NumAt b1 lo _:=⟨_,hB1,rfl,IsNum.ext (show IsNum w (.agg #[.bool (decide (lo<0)),n1,d1]) lo from ⟨n1,d1,rfl,hn1,hd1⟩) E0⟩;have hHi:NumAt b2 hi _:=⟨_,hB2,rfl,IsNum.ext (show IsNum w (.agg #[.bool (decide (hi<0)),n2,d2]) hi from ⟨n2,d2,rfl,hn2,hd2⟩) E0⟩;clear hB1 hB2 hn1 hd1 hn2 hd2 ne_b1_b2;refine rI fun K=>K1 (zL rfl hLo fun v16 N16=>K1 (j2 E0 hLo.ext hHi.ext hb176 (zBy (hp.ext E0) N16 ha) fun v17 w2 E0 hLo hHi N17=>K1 (j2 E0 hLo.ext hHi.ext hb19 (zAY N17) fun vi w2 E0 hLo hHi hr => ?_)));subst hr;refine K9 false rfl (decide_eq_false (fun e=>ha0 (zAp.1 e))) (mv (K7 (K2 (zL rfl hHi fun v22 N22=>K2 (j2 E0 hLo.ext hHi.ext hb176 (zBy (hp.ext E0) N22 hb) fun v23 w2 E0 hLo hHi N23=>K2 (j2 E0 hLo.ext hHi.ext hb19 (zAY N23) fun vi w2 E0 hLo hHi hr => ?_))))));subst hr;refine K2 (zH (v := .bool false) rfl rfl (congrArg (fun z=>some (Value.bool z)) (decide_eq_false (fun e=>hb0 (zAp.1 e)))) (pc0 rfl (rs [0,4,5,26] K ?_)));refine wcf rfl (sk (rJ fun K=>K1 (j2 E0 hLo.ext hHi.ext hb177 (zLP (L:=[]) (hp.ext E0) (fun e=>absurd e h0)) fun v29 w2 E0 hLo hHi hr => ?_)));obtain ⟨u,rfl,-⟩:=hr;refine mv (xt rfl (xt rfl (ag (ag (rm [0,4,5,7,8] K ?_)))));refine zA (rJ fun K=>K8 rfl (rm [0,4,5,7,33] K ?_));refine wct (congrArg Value.bool (bne_iff_ne.2 h0)) (rj fun K=>ag (rm [4,5,6] K ?_));exact zE (zY (en rfl E0 rfl))
 · clear h;have hLo:NumAt b1 lo _:=⟨_,hB1,rfl,IsNum.ext (show IsNum w (.agg #[.bool (decide (lo<0)),n1,d1]) lo from ⟨n1,d1,rfl,hn1,hd1⟩) E0⟩;have hHi:NumAt b2 hi _:=⟨_,hB2,rfl,IsNum.ext (show IsNum w (.agg #[.bool (decide (hi<0)),n2,d2]) hi from ⟨n2,d2,rfl,hn2,hd2⟩) E0⟩;clear hB1 hB2 hn1 hd1 hn2 hd2 ne_b1_b2;refine rI fun K=>K1 (zL rfl hLo fun v16 N16=>K1 (j2 E0 hLo.ext hHi.ext hb176 (zBy (hp.ext E0) N16 ha) fun v17 w2 E0 hLo hHi N17=>K1 (j2 E0 hLo.ext hHi.ext hb19 (zAY N17) fun vi w2 E0 hLo hHi hr => ?_)));subst hr;refine K9 false rfl (decide_eq_false (fun e=>ha0 (zAp.1 e))) (mv (K7 (K2 (zL rfl hHi fun v22 N22=>K2 (j2 E0 hLo.ext hHi.ext hb176 (zBy (hp.ext E0) N22 hb) fun v23 w2 E0 hLo hHi N23=>K2 (j2 E0 hLo.ext hHi.ext hb19 (zAY N23) fun vi w2 E0 hLo hHi hr => ?_))))));subst hr;refine K2 (zH (v := .bool false) rfl rfl (congrArg (fun z=>some (Value.bool z)) (decide_eq_false (fun e=>hb0 (zAp.1 e)))) (pc0 rfl (rs [0,4,5,26] K ?_)));refine wcf rfl (sk (rJ fun K=>K1 (j2 E0 hLo.ext hHi.ext hb177 (zLP (hp.ext E0) (fun _=>hl)) fun v29 w2 E0 hLo hHi hr => ?_)));obtain ⟨u,rfl,hC⟩:=hr;replace hC:=hC h0;obtain ⟨cp,cc,rfl,hcc,hCR,hcl⟩:=hC;have hC:zBB _ (.slice cp l.length cc) l:=⟨cp,cc,rfl,hcc,hCR,hcl⟩;clear hCR;refine mv (xt rfl (xt rfl (ag (ag (rm [0,4,5,7,8] K ?_)))));refine zA (rJ fun K=>K8 rfl (rm [0,4,5,7,33] K ?_))
   refine wcf (congrArg Value.bool (by rw [h0];rfl)) ?_;refine sk (zA (rJ fun K=>K1 (zJ zHR rfl (mv (rm [0,4,5,34,35,36] K ?_)))));refine zG ?_;obtain ⟨hrz,rfl⟩:=zCh hz;refine zo (X:=Nat) (fun i ρ w'=>Keep ρ [(0,v),(4,.pointer (some ⟨b1,0,none⟩)),(5,.pointer (some ⟨b2,0,none⟩)),(34,.slice cp l.length cc),(35,.int .i64 (l.length:Int)),(36,.int .i64 (i:Int))]∧i≤l.length∧Ext w w'∧NumAt b1 lo w'∧NumAt b2 hi w'∧zBB w' (.slice cp l.length cc) l∧zFx lo hi (l.drop i) i=some n) (fun i=>l.length-i) 0 ⟨(kp rfl),Nat.zero_le _,E0,hLo,hHi,hC,hn⟩ ?_;clear E0 hLo hHi hC hn hcc;rintro i ρ1 w1 ⟨hk,hil,E0,hLo,hHi,hC,hn⟩;refine wpe_k _ hk ?_;clear hk ρ1;refine rj fun K=>K8 rfl (rm [0,4,5,34,35,36,37] K ?_);refine zA ?_;refine K0 rfl ?_ ?_<;>intro hc
   · have hi':i<l.length:=t_lt hc;clear hc;rw [zIn hi'] at hn;unfold zFx at hn;refine sk (zA (zG (rj fun K=>mv ?_)));refine K1 (zFc (let ⟨_,_,e1,_,e2,_⟩:=hC;by cases e1;exact e2) rfl rfl hi' ?_);refine K1 (zGj (let ⟨_,_,e1,_,e2,_⟩:=hC;by cases e1;exact e2) hi' rfl fun v40 N40 => ?_);refine ag (ag (rm [0,4,5,9,10,34,35,36] K ?_));refine zA (zA ?_);rcases (show i%2=1∨(i%2≠1∧(trim (l.getD i [])).length≤1)∨(i%2≠1∧¬ (trim (l.getD i [])).length≤1∧lo=hi)∨(i%2≠1∧¬ (trim (l.getD i [])).length≤1∧lo≠hi) from by by_cases q1:i%2=1;exact .inl q1;by_cases q2:(trim (l.getD i [])).length≤1;exact .inr (.inl ⟨q1,q2⟩);by_cases q3:lo=hi;exact .inr (.inr (.inl ⟨q1,q2,q3⟩));exact .inr (.inr (.inr ⟨q1,q2,q3⟩))) with q1 | ⟨q1,q2⟩ | ⟨q1,q2,q3⟩ | ⟨q1,q2,q3⟩
     · rw [if_pos (.inl q1)] at hn;refine rI fun K=>K1 (zAz (b:=2) (i%2) rfl rfl (by decide) rfl ?_);refine K9 true rfl (by rw [q1];rfl) ?_;refine mv (K3 (K3 (K3 (pc0 rfl (mv (K3 (K3 (K3 (K3 (pc0 rfl (rs [0,4,5,10,34,35,36,45,46,47,50,51,52,53,54] K ?_)))))))))));exact wct rfl (zi (zAE (zP (zN (K6 fun K=>K1 (zy (b:=1) (i+1) rfl rfl rfl (by omega) (mv (rl K (zV (⟨rfl,i+1,⟨(kp rfl),by omega,E0,hLo,hHi,hC,hn⟩,by omega⟩))))))))))
     · rw [if_pos (.inr (.inl q2))] at hn;refine rI fun K=>K1 (zAz (b:=2) (i%2) rfl rfl (by decide) rfl (K9 false rfl (beq_eq_false_iff_ne.2 (by omega)) (mv (K7 (K2 (j3 E0 hLo.ext hHi.ext hC.ext hb18 (zCK N40) fun vi w2 E0 hLo hHi hC hr => ?_))))));subst hr;refine K2 (zH (v := .bool true) rfl rfl (congrArg (fun z=>some (Value.bool z)) (decide_eq_true (by omega))) (pc0 rfl (mv (K3 (K3 (K3 (K3 (pc0 rfl (rs [0,4,5,10,34,35,36,45,46,47,50,51,52,53,54] K ?_)))))))));exact wct rfl (zi (zAE (zP (zN (K6 fun K=>K1 (zy (b:=1) (i+1) rfl rfl rfl (by omega) (mv (rl K (zV (⟨rfl,i+1,⟨(kp rfl),by omega,E0,hLo,hHi,hC,hn⟩,by omega⟩))))))))))
     · rw [if_pos (.inr (.inr q3))] at hn;refine rI fun K=>K1 (zAz (b:=2) (i%2) rfl rfl (by decide) rfl (K9 false rfl (beq_eq_false_iff_ne.2 (by omega)) (mv (K7 (K2 (j3 E0 hLo.ext hHi.ext hC.ext hb18 (zCK N40) fun vi w2 E0 hLo hHi hC hr => ?_))))));subst hr;refine K2 (zH (v := .bool false) rfl rfl (congrArg (fun z=>some (Value.bool z)) (decide_eq_false (by omega))) (pc0 rfl (mv (K2 (zL rfl hLo fun v50 N50=>K2 (zL rfl hHi fun v51 N51=>K2 (j3 E0 hLo.ext hHi.ext hC.ext hb73 (zCn N50 N51 hrz) fun vi w2 E0 hLo hHi hC hr => ?_)))))));subst hr;refine K2 (zH (v := .bool true) rfl rfl (congrArg (fun z=>some (Value.bool z)) (by subst q3;unfold rcmpI;rw [if_neg (by grind),if_pos rfl];rfl)) ?_);refine pc0 rfl (rs [0,4,5,10,34,35,36,45,46,47,50,51,52,53,54] K ?_);exact wct rfl (zi (zAE (zP (zN (K6 fun K=>K1 (zy (b:=1) (i+1) rfl rfl rfl (by omega) (mv (rl K (zV (⟨rfl,i+1,⟨(kp rfl),by omega,E0,hLo,hHi,hC,hn⟩,by omega⟩))))))))))
     · rw [if_neg (fun e=>e.elim q1 fun e=>e.elim q2 q3)] at hn;obtain ⟨cn,hcn,hn⟩:=bind_some hn;refine rI fun K=>K1 (zAz (b:=2) (i%2) rfl rfl (by decide) rfl (K9 false rfl (beq_eq_false_iff_ne.2 (by omega)) (mv (K7 (K2 (j4 E0 hLo.ext hHi.ext hC.ext N40.ext hb18 (zCK N40) fun vi w2 E0 hLo hHi hC N40 hr => ?_))))));subst hr;refine K2 (zH (v := .bool false) rfl rfl (congrArg (fun z=>some (Value.bool z)) (decide_eq_false (by omega))) (pc0 rfl (mv (K2 (zL rfl hLo fun v50 N50=>K2 (zL rfl hHi fun v51 N51=>K2 (j4 E0 hLo.ext hHi.ext hC.ext N40.ext hb73 (zCn N50 N51 hrz) fun vi w2 E0 hLo hHi hC N40 hr => ?_)))))));subst hr;refine K2 (zH (v := .bool false) rfl rfl (congrArg (fun z=>some (Value.bool z)) (beq_eq_false_iff_ne.2 (zLo q3))) (pc0 rfl (rs [0,4,5,10,34,35,36,45,46,47,50,51,52,53,54] K ?_)));refine wcf rfl (sk (rJ fun K=>K1 (zL rfl hLo fun v57 N57=>K1 (zL rfl hHi fun v58 N58=>K1 (j4 E0 hLo.ext hHi.ext hC.ext N40.ext hb178 (Count_ok N40 N57 N58 hcn) fun vi w2 E0 hLo hHi hC N40 hr => ?_)))));subst hr;refine mv (xt rfl (xt rfl (ag (ag (rm [0,4,5,10,11,34,35,36,45,46,47,50,51,52,53] K ?_)))));refine zA ?_
       rcases (show 1<cn.1∨(cn.1=1∧∃ y,peval (l.getD i []) hi=some y∧y≠0)∨(cn.1=1∧∃ y,peval (l.getD i []) hi=some y∧y=0)∨(¬ 1<cn.1∧cn.1≠1) from by by_cases q1:1<cn.1;exact .inl q1;by_cases q2:cn.1=1;(rw [if_neg q1,if_pos q2] at hn;obtain ⟨y,hy,-⟩:=bind_some hn;by_cases q3:y=0;exact .inr (.inr (.inl ⟨q2,y,hy,q3⟩));exact .inr (.inl ⟨q2,y,hy,q3⟩));exact .inr (.inr (.inr ⟨q1,q2⟩))) with q1 | ⟨q2,y,hy,q4⟩ | ⟨q2,y,hy,q4⟩ | ⟨q1,q2⟩
       · rw [if_pos q1] at hn;obtain rfl:false=n:=Option.some.inj hn;rw [if_pos rfl] at hs;subst hs;refine rI fun K=>K9 true rfl (decide_eq_true q1) (mv (K3 (K3 (K3 (K3 (K3 (K3 (K3 (K3 (K3 (pc0 rfl (rl K ?_))))))))))));refine zN (K5 [0,4,5,34,35,36,45,46,47,50,51,52,53,65,66,67,68,69,70,71,72,73,74] ?_);refine wct rfl (rj fun K=>ag (rm [4,5,6,34,35,36] K ?_));exact zE (zh (zY (zAr (zh (zY (en rfl E0 rfl))))))
       · rw [if_neg (by omega),if_pos q2,hy] at hn;replace hn:(if y=0 then zFx lo hi (l.drop (i+1)) (i+1) else some false)=some n:=hn;rw [if_neg q4] at hn;obtain rfl:false=n:=Option.some.inj hn;rw [if_pos rfl] at hs;subst hs;refine rI fun K=>K9 false rfl (decide_eq_false (by omega)) (mv (K7 ?_));refine K2 (zH (v := .bool true) rfl rfl (congrArg (fun z=>some (Value.bool z)) (by rw [q2];rfl)) ?_);refine K7 (K7 (K2 (zL rfl hHi fun v69 N69=>K2 (j3 E0 hLo.ext hHi.ext hC.ext hb176 (zBy N40 N69 hy) fun v70 w2 E0 hLo hHi hC N70=>K2 (j3 E0 hLo.ext hHi.ext hC.ext hb19 (zAY N70) fun vi w2 E0 hLo hHi hC hr => ?_)))));subst hr;refine K2 (zH (v := .bool true) rfl rfl (congrArg (fun z=>some (Value.bool z)) (bne_iff_ne.2 (fun e=>q4 (zDn.1 e)))) (K2 (zAd rfl (pc0 rfl (rs [0,4,5,34,35,36,45,46,47,50,51,52,53,65,66,67,68,69,70,71,72,73,74] K ?_)))));refine wct rfl (rj fun K=>ag (rm [4,5,6,34,35,36] K ?_));exact zE (zh (zY (zAr (zh (zY (en rfl E0 rfl))))))
       · rw [if_neg (by omega),if_pos q2,hy] at hn;replace hn:(if y=0 then zFx lo hi (l.drop (i+1)) (i+1) else some false)=some n:=hn;rw [if_pos q4] at hn;refine rI fun K=>K9 false rfl (decide_eq_false (by omega)) (mv (K7 ?_));refine K2 (zH (v := .bool true) rfl rfl (congrArg (fun z=>some (Value.bool z)) (by rw [q2];rfl)) ?_);refine K7 (K7 (K2 (zL rfl hHi fun v69 N69=>K2 (j3 E0 hLo.ext hHi.ext hC.ext hb176 (zBy N40 N69 hy) fun v70 w2 E0 hLo hHi hC N70=>K2 (j3 E0 hLo.ext hHi.ext hC.ext hb19 (zAY N70) fun vi w2 E0 hLo hHi hC hr => ?_)))));subst hr;refine K2 (zH (v := .bool false) rfl rfl (congrArg (fun z=>some (Value.bool z)) (by rw [zDn.2 q4];rfl)) ?_);refine K2 (zAd rfl (pc0 rfl (rs [0,4,5,34,35,36,45,46,47,50,51,52,53,65,66,67,68,69,70,71,72,73,74] K ?_)));exact wcf rfl (zz (zT (zN (K6 fun K=>K1 (zy (b:=1) (i+1) rfl rfl rfl (by omega) (mv (rl K (zV (⟨rfl,i+1,⟨(kp rfl),by omega,E0,hLo,hHi,hC,hn⟩,by omega⟩)))))))))
       · rw [if_neg q1,if_neg q2] at hn;refine rI fun K=>K9 false rfl (decide_eq_false q1) (mv (K7 (K2 (zH (v := .bool false) rfl rfl (congrArg (fun z=>some (Value.bool z)) (beq_eq_false_iff_ne.2 q2)) (K7 (K3 (K3 (K3 (K3 (K3 (K2 (zAd rfl (pc0 rfl (rl K ?_))))))))))))));refine zN (K5 [0,4,5,34,35,36,45,46,47,50,51,52,53,65,66,67,68,69,70,71,72,73,74] ?_);exact wcf rfl (zz (zT (zN (K6 fun K=>K1 (zy (b:=1) (i+1) rfl rfl rfl (by omega) (mv (rl K (zV (⟨rfl,i+1,⟨(kp rfl),by omega,E0,hLo,hHi,hC,hn⟩,by omega⟩)))))))))
   · obtain rfl:i=l.length:=by have:=f_lt hc;omega
     clear hc;rw [List.drop_length] at hn;obtain rfl:true=n:=Option.some.inj hn;rw [if_neg (by decide)] at hs;refine zi (zAE (zv (zP (zN (zA (rj fun K=>K1 (zL rfl hHi fun v76 N76 => ?_)))))));clear hC;refine K1 (zK zAP fun gb w7 hb hE hBg hs => ?_);have hgg:w.heap.size≤gb:=by rw [hb];exact E0.size
     have hn1:gb≠b1:=by have:=hLo.lt;omega
     have hn2:gb≠b2:=by have:=hHi.lt;omega
     replace E0:=E0.trans hE;replace N76:=N76.ext hE;replace hLo:=hLo.ext hE;replace hHi:=hHi.ext hE;clear hE hb hs;refine K1 (zI rfl N76 (Cell3.of hBg rfl) fun _ w9 hU hNA => ?_);replace E0:=E0.upd hU hgg;replace hLo:=hLo.upd hU hBg (Ne.symm hn1);replace hHi:=hHi.upd hU hBg (Ne.symm hn2);clear hU hBg N76;refine rm [0,4,5,13,34,35,36] K ?_;refine zG (zo (X:=Nat) (fun f ρ w'=>∃ gb x,Keep ρ [(0,v),(4,.pointer (some ⟨b1,0,none⟩)),(5,.pointer (some ⟨b2,0,none⟩)),(13,.pointer (some ⟨gb,0,none⟩))]∧Ext w w'∧NumAt b1 lo w'∧NumAt b2 hi w'∧NumAt gb x w'∧w.heap.size≤gb∧gb≠b1∧gb≠b2∧(if rcmpI lo hi<0 then zKT p lo f x=some s else s=true)) (fun f=>f) (p.length+1) ⟨gb,hi,(kp rfl),E0,hLo,hHi,hNA,hgg,hn1,hn2,hs⟩ ?_);clear E0 hLo hHi hNA hgg hn1 hn2 hs gb;rintro f ρ1 w1 ⟨gb,x,hk,E0,hLo,hHi,hNA,hgg,hn1,hn2,hs⟩;refine wpe_k _ hk ?_;clear hk ρ1;refine zA (rj fun K=>K1 (zL rfl hLo fun v77 N77=>K1 (zL rfl hHi fun v78 N78=>K1 (j3 E0 hLo.ext hHi.ext hNA.ext hb73 (zCn N77 N78 hrz) fun vi w2 E0 hLo hHi hNA hr => ?_))));subst hr;refine K8 rfl (rm [0,4,5,13,80] K ?_);refine K0 rfl ?_ ?_<;>intro hc
     · have hz0:rcmpI lo hi<0:=of_decide_eq_true hc;clear hc;rw [if_pos hz0] at hs;rcases f with _ | f
       · cases hs
       unfold zKT at hs;obtain ⟨sm,hs1,hs⟩:=bind_some hs;obtain ⟨m,hs2,hs⟩:=bind_some hs;obtain ⟨y,hy,hs⟩:=bind_some hs;obtain ⟨hr1,rfl⟩:=zDo hs1;obtain ⟨hr2,rfl⟩:=zBn hs2;clear hs1 hs2;refine sk (zA (zG (rj fun K=>K1 (zL rfl hLo fun v81 N81 => ?_))));obtain ⟨n1,d1,rfl,hn81,hd81⟩:=N81;refine K1 (zL rfl hNA fun v82 N82 => ?_);obtain ⟨n2,d2,rfl,hn82,hd82⟩:=N82;refine K1 (zj (cs := #[.bool (decide (lo<0)),n1,d1,.bool (decide (x<0)),n2,d2]) (by kernel_rfl) (K1 (j3 E0 hLo.ext hHi.ext hNA.ext hb138 (SpanMid_ok ⟨n1,d1,n2,d2,rfl,⟨_,_,rfl,hn81,hd81⟩,⟨_,_,rfl,hn82,hd82⟩⟩ hr1 hr2) fun v84 w2 E0 hLo hHi hNA N84 => ?_)));clear hn81 hd81 hn82 hd82;obtain ⟨gcs,hBg,hgl,-⟩:=hNA;refine K1 (zI rfl N84 (Cell3.of hBg hgl) fun _ w9 hU hNA => ?_);replace E0:=E0.upd hU hgg;replace hLo:=hLo.upd hU hBg (Ne.symm hn1);replace hHi:=hHi.upd hU hBg (Ne.symm hn2);clear hU hBg N84;refine rm [0,4,5,13] K ?_;refine rJ fun K=>K1 (zL rfl hNA fun v86 N86=>K1 (j3 E0 hLo.ext hHi.ext hNA.ext hb176 (zBy (hp.ext E0) N86 hy) fun v87 w2 E0 hLo hHi hNA N87=>K1 (j3 E0 hLo.ext hHi.ext hNA.ext hb19 (zAY N87) fun vi w2 E0 hLo hHi hNA hr => ?_)));subst hr;refine ag (rm [0,4,5,13,14] K ?_);refine rJ fun K=>K8 rfl (rm [0,4,5,13,14,90] K ?_);refine K0 rfl ?_ ?_<;>intro hc
       · have hy0:y≠0:=fun e=>(bne_iff_ne.1 hc) (zDn.2 e);clear hc;rw [if_neg hy0] at hs;obtain rfl:=Option.some.inj hs;refine rJ fun K=>K8 rfl (ag (rm [4,5,6,13] K ?_));exact zE (zh (zY (zAr (zh (zY (en rfl E0 (congrArg Value.bool (decide_eq_decide.2 nsign_pos))))))))
       · have hy0:y=0:=zDn.1 (bne_eq_false_iff_eq.1 hc);clear hc;rw [if_pos hy0] at hs;refine zz (zT (zN (rj fun K=>K1 (zL rfl hNA fun v93 N93 => ?_))));clear hNA hgg hn1 hn2;refine rm [0,4,5,13,93] K ?_;refine K6 fun K => ?_;refine K1 (zK zAP fun gb2 w7 hb hE hBg hs => ?_);have hgg:w.heap.size≤gb2:=by rw [hb];exact E0.size
         have hn1:gb2≠b1:=by have:=hLo.lt;omega
         have hn2:gb2≠b2:=by have:=hHi.lt;omega
         replace E0:=E0.trans hE;replace N93:=N93.ext hE;replace hLo:=hLo.ext hE;replace hHi:=hHi.ext hE;clear hE hb hs;refine K1 (zI rfl N93 (Cell3.of hBg rfl) fun _ w9 hU hNA => ?_);replace E0:=E0.upd hU hgg;replace hLo:=hLo.upd hU hBg (Ne.symm hn1);replace hHi:=hHi.upd hU hBg (Ne.symm hn2);clear hU hBg N93;refine rl K (zV ?_);exact ⟨rfl,f,⟨_,_,(kp rfl),E0,hLo,hHi,hNA,hgg,hn1,hn2,by rw [if_pos hz0];exact hs⟩,by omega⟩
     · have hz0:¬ rcmpI lo hi<0:=of_decide_eq_false hc;clear hc;rw [if_neg hz0] at hs;subst hs;refine zi (zAE (zv (zP (zN (rj fun K=>ag (rm [4,5,6,13] K ?_))))));exact zE (en rfl E0 rfl)
variable {fuel:Nat}
theorem witness_ok {num den:Poly} {x:Rat} (hb:zIa w v B) (hp1:zM w u1 num) (hp2:zM w u2 den) (hr:rules num den B.least B.most=some (up,low)) (hrw:rroom B.hi B.lo=true) (hw:witN up low B.lo (rabs (B.hi-B.lo)) fuel 1=some x) (hfu:2^fuel≤1099511627776):Ret prog 89 #[v,u1,u2] w (fun r w'=>IsNum w' r x):=by
 obtain ⟨c,rfl,hcl,hC⟩:=hb;have E0:Ext w w:=Ext.refl w;refine J0 49 func89 rfl (rj fun K => ?_);refine K1 (zk fun b1 w1 hb hE hB1 hs => ?_);have hgb1:w.heap.size≤b1:=by rw [hb];exact E0.size
 replace E0:=E0.trans hE;clear hE hs hb;refine K1 (zK zAP fun b2 w2 hb hE hB2 hs => ?_);have hgb2:w.heap.size≤b2:=by rw [hb];exact E0.size
 have ne_b1_b2:b1≠b2:=by have:=hB1.lt;omega
 replace E0:=E0.trans hE;replace hB1:=hB1.ext hE;clear hE hs hb;refine rm [1,2,3,6] K ?_;refine zA ?_;replace hB1:Blk _ b1 144 c:=hB1;replace hB2:Blk _ b2 37 [.bool false,.slice none 0 0,.slice none 0 0]:=hB2;replace hC:=hC.ext E0;replace hp1:=hp1.ext E0;replace hp2:=hp2.ext E0;refine K6 fun K=>K1 (zW zJX rfl hB1 (by omega) ?_);rw [zIm hcl];refine mv (mv (K1 (j3 E0 hB1.ext hC.ext hB2.ext hb186 (zMH ⟨c,rfl,hcl,hC⟩ hp1 hp2 hr) fun v14 w2 E0 hB1 hC hB2 hr3 => ?_)));obtain ⟨va,vb,rfl,hU,hL⟩:=hr3;clear hp1 hp2;refine K1 (zK zLM fun b3 w7 hb hE hB3 hs => ?_);have hg3:w.heap.size≤b3:=by rw [hb];exact E0.size
 have ne13:b1≠b3:=by have:=hB1.lt;omega
 have ne23:b2≠b3:=by have:=hB2.lt;omega
 replace E0:=E0.trans hE;replace hB1:=hB1.ext hE;replace hB2:=hB2.ext hE;replace hC:=hC.ext hE;replace hU:=hU.ext hE;replace hL:=hL.ext hE;clear hE hb hs;refine K1 (zZ zLJ rfl hB3 rfl (Nat.le_of_ble_eq_true rfl) (by decide) (by obtain ⟨q1,q2,rfl,-⟩:=hU;obtain ⟨q3,q4,rfl,-⟩:=hL;kernel_rfl) fun w9 hUp hN => ?_);replace E0:=E0.upd hUp hg3;replace hB1:=hB1.upd hUp ne13;replace hB2:=hB2.upd hUp ne23;replace hC:=hC.updT hUp hB3 (by decide);replace hU:=hU.updT hUp hB3 (by decide) (by decide);replace hL:=hL.updT hUp hB3 (by decide) (by decide);clear hUp hB3 ne13 ne23;have hB3:=hN;clear hN;refine rs [3,6,7] K ?_;refine rj fun K=>ag (rm [3,6,7,8] K ?_);refine zG (zo (X:=Nat) (fun f ρ w'=>∃ n:Nat,Keep ρ [(3,.pointer (some ⟨b1,0,none⟩)),(6,.pointer (some ⟨b2,0,none⟩)),(7,.pointer (some ⟨b3,0,none⟩)),(8,.int .i64 (n:Int))]∧Ext w w'∧Blk w' b1 144 c∧BandC w' c B∧Blk w' b2 37 [.bool false,.slice none 0 0,.slice none 0 0]∧Blk w' b3 245 [va,vb]∧zM w' va up∧zM w' vb low∧witN up low B.lo (rabs (B.hi-B.lo)) f n=some x∧0<n∧n*2^f≤1099511627776) (fun f=>f) fuel ⟨1,(kp rfl),E0,hB1,hC,hB2,hB3,hU,hL,hw,by decide,by omega⟩ ?_);clear E0 hB1 hC hB2 hB3 hU hL hw hfu;rintro f ρ1 w1 ⟨n,hk,E0,hB1,hC,hB2,hB3,hU,hL,hw,hn0,hfu⟩;refine wpe_k _ hk ?_;clear hk ρ1;rcases f with _ | f
 · cases hw
 obtain ⟨r,hJ,hw⟩:=witN_some hw;have hpw:n*2^(f+1)=2*n*2^f:=by rw [Nat.pow_succ,Nat.mul_comm 2 n,Nat.mul_assoc,Nat.mul_comm 2]
 have hp2:1≤2^f:=Nat.one_le_two_pow;have hn2:2*n≤2*n*2^f:=Nat.le_mul_of_pos_right _ hp2;refine zA (zG (rJ fun K=>K1 (zy (b:=1) (n+1) rfl rfl rfl (by omega) (mv (rm [3,6,7,8,18,19] K ?_)))));refine zG (zo (X:=Nat) (fun g ρ w'=>∃ j:Nat,Keep ρ [(3,.pointer (some ⟨b1,0,none⟩)),(6,.pointer (some ⟨b2,0,none⟩)),(7,.pointer (some ⟨b3,0,none⟩)),(8,.int .i64 (n:Int)),(18,.int .i64 ((n+1:Nat):Int)),(19,.int .i64 (j:Int))]∧Ext w w'∧Blk w' b1 144 c∧BandC w' c B∧Blk w' b2 37 [.bool false,.slice none 0 0,.slice none 0 0]∧Blk w' b3 245 [va,vb]∧zM w' va up∧zM w' vb low∧witJ up low B.lo (rabs (B.hi-B.lo)) n g j=some r∧j+g=n+1) (fun g=>g) (n+1) ⟨0,(kp rfl),E0,hB1,hC,hB2,hB3,hU,hL,hJ,by omega⟩ ?_);clear E0 hB1 hC hB2 hB3 hU hL hJ;rintro g ρ1 w1 ⟨j,hk,E0,hB1,hC,hB2,hB3,hU,hL,hJ,hjg⟩;refine wpe_k _ hk ?_;clear hk ρ1;have hX:Ext w1 w1:=Ext.refl w1;refine zA ?_;rcases g with _ | g
 · obtain rfl:none=r:=Option.some.inj hJ;replace hw:witN up low B.lo (rabs (B.hi-B.lo)) f (2*n)=some x:=hw;refine K6 fun K=>K8 rfl (rs [3,6,7,8,18,19,20] K ?_);exact zA (wcf (congrArg Value.bool (decide_eq_false (by omega))) (zi (zAE (zv (zP (zT (zN (rI fun K=>K1 (zFI (b:=2) (2*n) rfl rfl (by omega) (by omega) (ag (rl K (zV (⟨rfl,f,⟨2*n,(kp rfl),E0,hB1,hC,hB2,hB3,hU,hL,hw,by omega,by omega⟩,by omega⟩)))))))))))))
 · unfold witJ at hJ;obtain ⟨q,hq,hJ⟩:=bind_some hJ;obtain ⟨m,hm,hJ⟩:=bind_some hJ;obtain ⟨y,hy,hJ⟩:=bind_some hJ;obtain ⟨a,ha,hJ⟩:=bind_some hJ;obtain ⟨hr1,rfl⟩:=zCC hq;obtain ⟨hr2,rfl⟩:=zBn hm;obtain ⟨hr3,rfl⟩:=zDo hy;clear hq hm hy;refine K6 fun K=>K8 rfl (rs [3,6,7,8,18,19,20] K ?_);refine zA (wct (congrArg Value.bool (decide_eq_true (by omega))) (sk (zA (zG (rJ fun K=>ag (rm [3,6,7,8,9,18,19] K ?_))))));refine zA ?_;have hE1:=E0;have hlt2:b2<w1.heap.size:=hB2.lt
   refine zAN 12 [([(3,none)],none),([(22,some 0)],none),([(23,some 0)],none),([(3,none)],none),([(25,some 0)],none),([(26,some 0)],none),([(9,none)],none),([(8,none)],none),([(28,some 1),(29,some 0)],none),([(27,some 3),(30,some 0)],none),([(24,some 7),(31,some 0)],none),([],none)] mixed (by kernel_rfl) (by kernel_rfl) (by kernel_rfl) (by kernel_rfl) (by kernel_rfl) fun K hK=>dvp (fun σ wx hE hk=>zB zFV hk.1 ⟨Ext.refl _,rfl⟩) (dvp (fun σ wx hE hk=>zB zCA hk.1 ⟨Ext.refl _,rfl⟩) (dcp (fun v w'=>IsNum w' v B.lo) (fun _ _ _ _ hx h=>h.ext hx.toExt) (fun σ wx hE hk=>zAK hk.1 (hB1.ext hE) (by omega) (hC.ext hE).1 fun v h=>⟨Ext.refl _,h⟩) (dvp (fun σ wx hE hk=>zB zFV hk.1 ⟨Ext.refl _,rfl⟩) (dcp (fun v w'=>zw w' v B.lo B.hi) (fun _ _ _ _ hx h=>h.ext hx.toExt) (fun σ wx hE hk=>zW aggr47 hk.1 (hB1.ext hE) (by omega) ⟨Ext.refl _,(hC.ext hE).span hcl⟩) (dcp (fun v w'=>IsNum w' v (rabs (B.hi-B.lo))) (fun _ _ _ _ hx h=>h.ext hx.toExt) (fun σ wx hE hk=>zC hb147 (CallK.of_ret (SpanWidth_ok hk.1 hrw) fun v w2 hX hr=>⟨hX,hr⟩) rfl) (dvp (fun σ wx hE hk=>zF ⟨Ext.refl _,hk.1⟩) (dvp (fun σ wx hE hk=>zF ⟨Ext.refl _,hk.1⟩) (dcp (fun v w'=>IsNum w' v ((j:Rat)/(n:Rat))) (fun _ _ _ _ hx h=>h.ext hx.toExt) (fun σ wx hE hk=>zC hb96 (CallK.eq2 hk.1 hk.2.1 (CallK.of_ret (zIF (a:=(j:Int)) (b:=(n:Int)) (by omega) (by omega) (by omega) (by omega) hr1) fun v w2 hX hr=>⟨hX,hr⟩)) rfl) (dcp (fun v w'=>IsNum w' v (rabs (B.hi-B.lo)*((j:Rat)/(n:Rat)))) (fun _ _ _ _ hx h=>h.ext hx.toExt) (fun σ wx hE hk=>zC hb101 (CallK.of_ret (zCz hk.1 hk.2.1 hr2) fun v w2 hX hr=>⟨hX,hr⟩) rfl) (dcp (fun v w'=>IsNum w' v (B.lo+rabs (B.hi-B.lo)*((j:Rat)/(n:Rat)))) (fun _ _ _ _ hx h=>h.ext hx.toExt) (fun σ wx hE hk=>zC hb146 (CallK.of_ret (zFL hk.1 hk.2.1 hr3) fun v w2 hX hr=>⟨hX,hr⟩) rfl) ?_))))))))))
   refine dcp (fun v w'=>∃ b,v = .pointer (some ⟨b,0,none⟩)∧Blk w' b 37 [.bool false,.slice none 0 0,.slice none 0 0]∧w1.heap.size≤b) (fun _ _ _ _ hx h=>(let ⟨b,e,hB,hg⟩:=h;⟨b,e,hB.ext hx.toExt,hg⟩)) (fun σ wx hE hk=>zK zAP fun b w2 hb hX hB hs=>⟨hX,b,rfl,hB,(by rw [hb];exact hE.size)⟩) ?_;refine zAR (hK _ fun wq hE => ?_);rintro _ rfl _ rfl v24 N24 _ rfl v26 N26 v27 N27 _ rfl _ rfl v30 N30 v31 N31 v32 N32 v10 N10;refine zU ?_;replace E0:=E0.trans hE;replace hX:=hX.ext hE;replace hB1:=hB1.ext hE;replace hB2:=hB2.ext hE;replace hB3:=hB3.ext hE;replace hC:=hC.ext hE;clear hE;obtain ⟨gb,rfl,hBg,hgg⟩:=N10;have hg0:w.heap.size≤gb:=Nat.le_trans hE1.size hgg;have hb1:b1≠gb:=hB1.neT hBg (by decide);have hb3:b3≠gb:=hB3.neT hBg (by decide);have hb2:b2≠gb:=by have:=hlt2;omega
   refine K1 (zI rfl N32 (Cell3.of hBg rfl) fun _ w9 hUp hNA => ?_);replace E0:=E0.upd hUp hg0;replace hU:=hU.updN hX hUp hBg hgg;replace hL:=hL.updN hX hUp hBg hgg;replace hB1:=hB1.upd hUp hb1;replace hB2:=hB2.upd hUp hb2;replace hB3:=hB3.upd hUp hb3;replace hC:=hC.updT hUp hBg (by decide);clear hUp hBg N32 N24 N26 N27 N30 N31 hX;refine zAi (zN (K5 [3,6,7,8,10,18,19] ?_));refine zA ?_;rcases (show (a<0)∨(¬ a<0∧∃ b,peval low (B.lo+rabs (B.hi-B.lo)*((j:Rat)/(n:Rat)))=some b∧b<0)∨(¬ a<0∧∃ b,peval low (B.lo+rabs (B.hi-B.lo)*((j:Rat)/(n:Rat)))=some b∧¬ b<0) from by by_cases q1:a<0;exact .inl q1;rw [if_neg q1] at hJ;obtain ⟨b,hb,-⟩:=bind_some hJ;by_cases q2:b<0;exact .inr (.inl ⟨q1,b,hb,q2⟩);exact .inr (.inr ⟨q1,b,hb,q2⟩)) with ha0 | ⟨ha0,b,hb,hb0⟩ | ⟨ha0,b,hb,hb0⟩
   · rw [if_pos ha0] at hJ;obtain rfl:=Option.some.inj hJ;obtain rfl:=Option.some.inj hw;refine K6 fun K=>K1 (zq (ix:=0) zDe rfl rfl (by decide) (by decide) (K1 (zD zBQ rfl hB3 rfl (K1 (zL rfl hNA fun v35 N35=>K1 (j7 E0 hB1.ext hC.ext hB2.ext hB3.ext hU.ext hL.ext hNA.ext hb176 (zBy hU N35 ha) fun v36 w2 E0 hB1 hC hB2 hB3 hU hL hNA N36=>K1 (j7 E0 hB1.ext hC.ext hB2.ext hB3.ext hU.ext hL.ext hNA.ext hb19 (zAY N36) fun vi w2 E0 hB1 hC hB2 hB3 hU hL hNA hr => ?_)))))));subst hr;refine K9 true rfl (decide_eq_true (zAp.2 ha0)) (mv (K3 (K3 (K3 (K3 (K3 (K3 (pc0 rfl (rs [3,6,7,8,10,18,19,40,41,42,43,44,45,46] K ?_)))))))));refine wct rfl (rj fun K=>K1 (zL rfl hNA fun v47 N47=>K1 (zI rfl N47 (Cell3.of hB2 rfl) fun _ w9 hUp hN4 => ?_)));replace E0:=E0.upd hUp hgb2;obtain ⟨cs4,hB4,hl4,hN4⟩:=hN4;refine rm [3,6,7,8,18,19] K ?_;exact zE (zh (zY (zAr (zh (zh (zY (zAr (zh (zQ ⟨rfl,_,zx rfl rfl rfl zAB hB4 hl4,E0,hN4⟩)))))))))
   · rw [if_neg ha0,hb] at hJ;replace hJ:(if b<0 then some (some (B.lo+rabs (B.hi-B.lo)*((j:Rat)/(n:Rat)))) else witJ up low B.lo (rabs (B.hi-B.lo)) n g (j+1))=some r:=hJ;rw [if_pos hb0] at hJ;obtain rfl:=Option.some.inj hJ;obtain rfl:=Option.some.inj hw;refine K6 fun K=>K1 (zq (ix:=0) zDe rfl rfl (by decide) (by decide) (K1 (zD zBQ rfl hB3 rfl (K1 (zL rfl hNA fun v35 N35=>K1 (j7 E0 hB1.ext hC.ext hB2.ext hB3.ext hU.ext hL.ext hNA.ext hb176 (zBy hU N35 ha) fun v36 w2 E0 hB1 hC hB2 hB3 hU hL hNA N36=>K1 (j7 E0 hB1.ext hC.ext hB2.ext hB3.ext hU.ext hL.ext hNA.ext hb19 (zAY N36) fun vi w2 E0 hB1 hC hB2 hB3 hU hL hNA hr => ?_)))))));subst hr;refine K9 false rfl (decide_eq_false (fun e=>ha0 (zAp.1 e))) (mv (K2 (zq (ix:=1) zDe rfl rfl (by decide) (by decide) (K2 (zD zBQ rfl hB3 rfl (K2 (zL rfl hNA fun v42 N42=>K2 (j7 E0 hB1.ext hC.ext hB2.ext hB3.ext hU.ext hL.ext hNA.ext hb176 (zBy hL N42 hb) fun v43 w2 E0 hB1 hC hB2 hB3 hU hL hNA N43=>K2 (j7 E0 hB1.ext hC.ext hB2.ext hB3.ext hU.ext hL.ext hNA.ext hb19 (zAY N43) fun vi w2 E0 hB1 hC hB2 hB3 hU hL hNA hr => ?_)))))))));subst hr;refine K2 (zH (v := .bool true) rfl rfl (congrArg (fun z=>some (Value.bool z)) (decide_eq_true (zAp.2 hb0))) (pc0 rfl (rs [3,6,7,8,10,18,19,40,41,42,43,44,45,46] K ?_)))
     refine wct rfl (rj fun K=>K1 (zL rfl hNA fun v47 N47=>K1 (zI rfl N47 (Cell3.of hB2 rfl) fun _ w9 hUp hN4 => ?_)));replace E0:=E0.upd hUp hgb2;obtain ⟨cs4,hB4,hl4,hN4⟩:=hN4;refine rm [3,6,7,8,18,19] K ?_;exact zE (zh (zY (zAr (zh (zh (zY (zAr (zh (zQ ⟨rfl,_,zx rfl rfl rfl zAB hB4 hl4,E0,hN4⟩)))))))))
   · rw [if_neg ha0,hb] at hJ;replace hJ:(if b<0 then some (some (B.lo+rabs (B.hi-B.lo)*((j:Rat)/(n:Rat)))) else witJ up low B.lo (rabs (B.hi-B.lo)) n g (j+1))=some r:=hJ;rw [if_neg hb0] at hJ;refine K6 fun K=>K1 (zq (ix:=0) zDe rfl rfl (by decide) (by decide) (K1 (zD zBQ rfl hB3 rfl (K1 (zL rfl hNA fun v35 N35=>K1 (j7 E0 hB1.ext hC.ext hB2.ext hB3.ext hU.ext hL.ext hNA.ext hb176 (zBy hU N35 ha) fun v36 w2 E0 hB1 hC hB2 hB3 hU hL hNA N36=>K1 (j7 E0 hB1.ext hC.ext hB2.ext hB3.ext hU.ext hL.ext hNA.ext hb19 (zAY N36) fun vi w2 E0 hB1 hC hB2 hB3 hU hL hNA hr => ?_)))))));subst hr;refine K9 false rfl (decide_eq_false (fun e=>ha0 (zAp.1 e))) (mv (K2 (zq (ix:=1) zDe rfl rfl (by decide) (by decide) (K2 (zD zBQ rfl hB3 rfl (K2 (zL rfl hNA fun v42 N42=>K2 (j7 E0 hB1.ext hC.ext hB2.ext hB3.ext hU.ext hL.ext hNA.ext hb176 (zBy hL N42 hb) fun v43 w2 E0 hB1 hC hB2 hB3 hU hL hNA N43=>K2 (j7 E0 hB1.ext hC.ext hB2.ext hB3.ext hU.ext hL.ext hNA.ext hb19 (zAY N43) fun vi w2 E0 hB1 hC hB2 hB3 hU hL hNA hr => ?_)))))))));subst hr;refine K2 (zH (v := .bool false) rfl rfl (congrArg (fun z=>some (Value.bool z)) (decide_eq_false (fun e=>hb0 (zAp.1 e)))) (pc0 rfl (rs [3,6,7,8,10,18,19,40,41,42,43,44,45,46] K ?_)))
     exact wcf rfl (zz (zT (zN (K6 fun K=>K1 (zy (b:=1) (j+1) rfl rfl rfl (by omega) (mv (rl K (zV (⟨rfl,g,⟨j+1,(kp rfl),E0,hB1,hC,hB2,hB3,hU,hL,hJ,by omega⟩,by omega⟩)))))))))
end Go.Proofs.YtjiendlfobjanaaGreatDoor
namespace Go.Proofs.YtjiendlfobjanaaGreatDoor
open Go Go.RowKit Go.Proofs Tryz
variable {P:Program} {T t' ty:TypeId} {af:Array Edge} {g:Option (Nat×Bool)} {n:Nat} {pos:String} {r:Option Nat} {w:World} {x y:Operand} {σ:Operand→Value}
abbrev S (l:List UInt8):Value := .string ⟨l.toArray⟩
theorem zKH (l:List UInt8):(⟨l.toArray⟩:ByteArray).toList=l:=by
 rw [ByteArray.toList_eq]
theorem zFT (l:List UInt8):(⟨l.toArray⟩:ByteArray).size=l.length:=rfl
theorem zII {b:Nat} {s:ByteArray} (h:w.heap[b]? = some (.stringIter s n)):(getObj b).run P w = .ok (.stringIter s n) w:=by simp [getObj,Sem.run,h]
theorem run_setIter {b:Nat} {s:ByteArray} (o:Obj) (h:w.heap[b]? = some (.stringIter s n)):(setObj b o).run P w = .ok () (w.putObj b o):=by simp [setObj,Sem.run,h,World.putObj]
section laws
variable {K:Value→World→Prop} {d:Option Tmp} {i:Operand} {a b l:List UInt8}
theorem zDJ {op:BinOp} {t:TypeId} {a b:ByteArray}:(eqGuard op t x y (.string a) (.string b)).run P w = .ok () w:=by
 unfold eqGuard;cases op<;>simp
theorem zAe (hT:P.underlying T=some .string) (hx:σ x=S l) (hk:K (.int .i64 (l.length:Int)) w):Runs P r ⟨d,.call { callee := .builtin .len,args := #[x],argTypes := #[T] },ty,pos,af,g⟩ σ w K :=
 runs_lenString hT hx (by rw [zFT];exact hk)
theorem zAs (hx:σ x=S a) (hy:σ y=S b) (hk:K (.bool (a==b)) w):Runs P r ⟨d,.binOp .eql T x y t',ty,pos,af,g⟩ σ w K:=by
 refine zl (fun _ e=>by cases e) ?_ hk;simp [execOp,binOp,hx,hy,zDJ,Op.stringOp,zKH]
theorem zDL (hx:σ x=S a) (hy:σ y=S b) (hk:K (.bool (a != b)) w):Runs P r ⟨d,.binOp .neq T x y t',ty,pos,af,g⟩ σ w K:=by
 refine zl (fun _ e=>by cases e) ?_ hk;simp [execOp,binOp,hx,hy,zDJ,Op.stringOp,zKH];cases h:a==b<;>simp_all [bne]
theorem zDK (hx:σ x=S a) (hy:σ y=S b) (hl:a.length+b.length<9223372036854775808) (hk:K (S (a++b)) w):Runs P r ⟨d,.binOp .add T x y t',ty,pos,af,g⟩ σ w K:=by
 refine zl (fun _ e=>by cases e) ?_ hk;have e:(⟨a.toArray⟩:ByteArray)++(⟨b.toArray⟩:ByteArray)=⟨(a++b).toArray⟩:=by
  apply ByteArray.ext;simp [ByteArray.data_append]
 have hm:¬ (((a.length+b.length:Nat):Int)>IntKind.i64.max):=by
  have:IntKind.i64.max=9223372036854775807:=by decide
  omega
 simp only [execOp,binOp,hx,hy,Sem.run_bind,zDJ,Op.stringOp,zFT,e,if_neg hm,Result.andThen_ok,Sem.run_pure]
theorem zFd {k:IntKind} (hT:P.underlying T=some .string) (hx:σ x=S l) (hi:σ i = .int k (n:Int)) (h1:n<l.length) (hk:K (.int .u8 ((l.getD n 0).toNat:Int)) w):Runs P r ⟨d,.index T x i,ty,pos,af,g⟩ σ w K:=by
 refine zl (fun _ e=>by cases e) ?_ hk;have e:(⟨l.toArray⟩:ByteArray)[n]? = some (l.getD n 0):=by
  have h2:n<(⟨l.toArray⟩:ByteArray).size:=by rw [zFT];exact h1
  rw [getElem?_pos (⟨l.toArray⟩:ByteArray) n h2];congr 1;rw [List.getD_eq_getElem?_getD,List.getElem?_eq_getElem h1];rfl
 simp [execOp,Instr.index,run_underlying hT,hx,hi,asIntOf,e]
theorem zGK {k:IntKind} (hT:P.underlying T=some .string) (hx:σ x=S l) (hi:σ i = .int k (n:Int)) (h1:n≤l.length) (hk:K (S (l.drop n)) w):Runs P r ⟨d,.slice T x (some i) none none,ty,pos,af,g⟩ σ w K:=by
 refine zl (fun _ e=>by cases e) ?_ hk;have hb:=fun (y:Nat) (code:BoundsCode) (hy:n≤y)=>zBa (P:=P) (k:=k) (i:=(n:Int)) (y:=y) (code:=code) (by omega) (by omega) w;have e:(⟨l.toArray⟩:ByteArray).extract n l.length=⟨(l.drop n).toArray⟩:=by
  apply ByteArray.ext;simp [ByteArray.data_extract,List.drop_take,List.take_of_length_le]
 simp [execOp,Instr.sliceAt,Instr.slice,Instr.sliceBounds,run_underlying hT,hx,hi,zFT,hb _ _ h1,e]
theorem zGJ {k:IntKind} (hT:P.underlying T=some .string) (hx:σ x=S l) (hi:σ i = .int k (n:Int)) (h1:n≤l.length) (hk:K (S (l.take n)) w):Runs P r ⟨d,.slice T x none (some i) none,ty,pos,af,g⟩ σ w K:=by
 refine zl (fun _ e=>by cases e) ?_ hk;have hb:=fun (y:Nat) (code:BoundsCode) (hy:n≤y)=>zBa (P:=P) (k:=k) (i:=(n:Int)) (y:=y) (code:=code) (by omega) (by omega) w;have e:(⟨l.toArray⟩:ByteArray).extract 0 n=⟨(l.take n).toArray⟩:=by
  apply ByteArray.ext;simp [ByteArray.data_extract]
 simp [execOp,Instr.sliceAt,Instr.slice,Instr.sliceBounds,run_underlying hT,hx,hi,zFT,hb _ _ h1,e]
theorem runs_srange (hT:P.underlying T=some .string) (hx:σ x=S l) (hk:∀ b w',b=w.heap.size→Ext w w'→w'.heap[b]? = some (.stringIter ⟨l.toArray⟩ 0)→K (.pointer (some ⟨b,0,none⟩)) w'):Runs P r ⟨d,.range T x,ty,pos,af,g⟩ σ w K:=by
 refine zAb (fun _ e=>by cases e) (v := .pointer (some ⟨w.heap.size,0,none⟩)) (w':={ w with heap:=w.heap.push (.stringIter ⟨l.toArray⟩ 0) }) ?_ (hk _ _ rfl (Ext.push _) (by simp));simp [execOp,Instr.range,run_underlying hT,hx]
theorem runs_snext_end {b:Nat} (hx:σ x = .pointer (some ⟨b,0,none⟩)) (hi:w.heap[b]? = some (.stringIter ⟨l.toArray⟩ n)) (h1:l.length≤n) (hk:K (.tuple #[.bool false]) w):Runs P r ⟨d,.next x true,ty,pos,af,g⟩ σ w K:=by
 refine zl (fun _ e=>by cases e) ?_ hk;have h2:¬ n<l.length:=by omega
 simp only [execOp,Instr.next,hx,Sem.run_bind,zII hi,Result.andThen_ok,zFT,if_neg h2,Sem.run_pure]
theorem runs_snext {b:Nat} (hx:σ x = .pointer (some ⟨b,0,none⟩)) (hi:w.heap[b]? = some (.stringIter ⟨l.toArray⟩ n)) (h1:n<l.length) (ha:(l.getD n 0).toNat<128)
 (hk:∀ w',OthX b w w'→w'.heap[b]? = some (.stringIter ⟨l.toArray⟩ (n+1))→K (.tuple #[.bool true,.int .i64 (n:Int),.int .i32 ((l.getD n 0).toNat:Int)]) w'):Runs P r ⟨d,.next x true,ty,pos,af,g⟩ σ w K:=by
 have hd:Utf8.decode ⟨l.toArray⟩ n=((l.getD n 0).toNat,1):=by
  have e:(⟨l.toArray⟩:ByteArray).get! n=l.getD n 0:=by
   simp [ByteArray.get!,Array.getElem!_eq_getD,List.getD_eq_getElem?_getD];rfl
  unfold Utf8.decode;simp only [Nat.add_zero,e];rw [if_pos ha]
 have hlt:b<w.heap.size:=(Array.getElem?_eq_some_iff.1 hi).1;refine zAb (fun _ e=>by cases e) (v := .tuple #[.bool true,.int .i64 (n:Int),.int .i32 ((l.getD n 0).toNat:Int)]) (w':=w.putObj b (.stringIter ⟨l.toArray⟩ (n+1))) ?_ (hk _ (zBr _ hi rfl) (by simp [World.putObj,hlt]));simp only [execOp,Instr.next,hx,Sem.run_bind,zII hi,Result.andThen_ok,zFT,if_pos h1,hd,run_setIter _ hi,Sem.run_pure,goInt]
end laws
theorem zBF:prog.underlying 9=some .string:=by kernel_rfl
def isDig (b:UInt8):Bool:=decide (48≤b.toNat)&&decide (b.toNat≤57)
def zDB:List UInt8:=[48,49,50,51,52,53,54,55,56,57]
theorem digSet_contains (x:UInt8):zDB.contains x=isDig x:=by
 have key:∀ n:Fin 256,zDB.contains (UInt8.ofFin n)=isDig (UInt8.ofFin n):=by decide +kernel
 exact key x.toFin
def zDZ (l:List UInt8):Bool:=l != []&&l.all isDig
def zBC (l:List UInt8):Bool:=zDZ l&&(l==[48] || l.getD 0 0 != 48)
def cutAt (c:UInt8):List UInt8→List UInt8×List UInt8×Bool
 | []=>([],[],false)
 | b :: l=>if b=c then ([],l,true) else (b :: (cutAt c l).1,(cutAt c l).2.1,(cutAt c l).2.2)
def natS (l:List UInt8):Nat:=l.foldl (fun n b=>10*n+(b.toNat-48)) 0
def below (l:List UInt8):Bool:=l.head? == some 45
def zS (l:List UInt8):List UInt8:=if below l then l.tail else l
def zr (l:List UInt8):Rat×Int :=
 let c:=cutAt 47 (zS l)
 if !zBC c.1 || (c.1==[48]&&(below l || c.2.2)) then (0,6)
 else if c.2.2&&(!zBC c.2.1 || c.2.1==[48] || c.2.1==[49]) then (0,6)
 else if 1000<c.1.length∨1000<c.2.1.length then (0,3)
 else if !c.2.2 then (qOf (below l) (natS c.1) 1,0)
 else if Nat.gcd (natS c.1) (natS c.2.1)≠1 then (0,6) else (qOf (below l) (natS c.1) (natS c.2.1),0)
theorem trimR (l:List UInt8) (x:UInt8) (h:isDig x=true):(l++[x]).all isDig=l.all isDig:=by simp [h]
theorem zIW {l:List UInt8} (h:l.length=n+1):l=l.take n++[l.getD n 0]:=by
 have h2:n<l.length:=by omega
 rw [List.getD_eq_getElem?_getD,List.getElem?_eq_getElem h2,Option.getD_some,← List.take_succ_eq_append_getElem h2,List.take_of_length_le (by omega)]
theorem zKJ (c:UInt8):∀ l:List UInt8,(Lib.indexByte l c = -1∧cutAt c l=(l,[],false))∨(∃ n:Nat,Lib.indexByte l c=n∧n<l.length∧cutAt c l=(l.take n,l.drop (n+1),true))
 | [] => .inl ⟨rfl,rfl⟩
 | b :: l=>by
  unfold Lib.indexByte cutAt;by_cases e:b=c
  · subst e;right;exact ⟨0,by simp,by simp,by simp⟩
  · rcases zKJ c l with ⟨h1,h2⟩ | ⟨n,h1,h2,h3⟩
    · left;simp [e,h1,h2]
    · right;refine ⟨n+1,?_,by simp;omega,by simp [e,h3]⟩;rw [h1];have:((n:Int) == -1)=false:=by rw [beq_eq_false_iff_ne];omega
      simp [e,this]
theorem zKZ (l:List UInt8) (b:UInt8):natS (l++[b])=10*natS l+(b.toNat-48):=by unfold natS;simp
theorem zNE:∀ (n:Nat) (l:List UInt8),l.length=n→l.all isDig=true→natS l<10^n
 | 0,l,h,_=>by rw [List.length_eq_zero_iff.1 h];decide
 | n+1,l,h,hd=>by
  have e:=zIW h;rw [e] at hd ⊢;rw [zKZ];simp only [List.all_append,List.all_cons,List.all_nil,Bool.and_true,Bool.and_eq_true] at hd;have h1:=zNE n (l.take n) (by simp;omega) hd.1;have h2:=hd.2;unfold isDig at h2;simp only [Bool.and_eq_true,decide_eq_true_eq] at h2;rw [Nat.pow_succ];omega
theorem zFB {l:List UInt8} (h:l.length≤1000) (hd:l.all isDig=true):Fit (natS l):=by
 have h1:=zNE l.length l rfl hd;have h2:10^l.length≤2^(4*l.length):=by rw [Nat.pow_mul];exact Nat.pow_le_pow_left (by decide) _
 by_cases h0:natS l=0
 · rw [h0];unfold Fit;decide
 · have:=(Nat.log2_lt h0 (k:=4*l.length)).2 (Nat.lt_of_lt_of_le h1 h2);unfold Fit;omega
end Go.Proofs.YtjiendlfobjanaaGreatDoor
namespace Go.Proofs.YtjiendlfobjanaaGreatDoor
open Go Go.RowKit Go.Proofs Tryz
set_option maxRecDepth 10000
set_option maxHeartbeats 2000000
variable {b:Nat} {l0:List UInt8} {w:World}
theorem zHe {x:UInt8} (hB:Blk w b 392 (Lib.setCells zDB).toList):Ret prog 364 #[.pointer (some ⟨b,0,none⟩),.int .u8 (x.toNat:Int)] w (fun v w'=>w'=w∧v = .bool (isDig x)) :=
 (Tryz.asciiSet_contains b x (isDig x) w (by rw [hB.cell,Array.getElem?_toList,Lib.setCells_at,digSet_contains])).mono fun e w' ⟨he,hw⟩=>⟨_,he,by rw [hw];exact Ext.refl w,hw,rfl⟩
theorem hv392 (w:World):(zeroValue 392).run prog w = .ok (.agg (Array.replicate 256 (.bool false))) w:=by
 have h:(prog.info? 392).bind (·.zero)=some (.agg (Array.replicate 256 (.bool false))):=by kernel_rfl
 cases hi:prog.info? 392 with
 | none=>simp [hi] at h
 | some i=>simp [hi] at h;simp [zeroValue,typeInfo,hi,h]
theorem makeSet_ok:Ret prog 344 #[S zDB] w (fun v w'=>v = .tuple #[.agg (Lib.setCells zDB),.bool true]) :=
 (Tryz.strings_makeASCIISet hv392 ⟨zDB.toArray⟩ w (by decide) (fun j b h=>by
  have hm:b∈zDB:=List.mem_of_getElem? (by simpa using h);have key:∀ b∈zDB,b.toNat<128:=by decide +kernel
  exact key b hm)).mono fun e w' ⟨he,hw⟩=>⟨_,he,by rw [hw];exact Ext.push _,rfl⟩
theorem index47_ok {l:List UInt8} {c:UInt8}:Ret prog 306 #[S l,S [c]] w (fun v _=>v = .int .i64 (Lib.indexByte l c)) :=
 (Tryz.stringslite_Index_one ⟨l.toArray⟩ c w).mono fun e w' ⟨he,hw⟩=>⟨_,he,by rw [hw];exact Ext.refl w,rfl⟩
theorem cutPrefix_ok {l:List UInt8}:Ret prog 151 #[S l,S [45]] w (fun v _=>v = .tuple #[S (zS l),.bool (below l)]) :=
 (Tryz.strings_CutPrefix ⟨l.toArray⟩ ⟨#[45]⟩ w).mono fun e w' ⟨he,hw⟩=>⟨_,he,by rw [hw];exact Ext.refl w,by
  have hb:Lib.hasPrefix l [45]=below l:=by
   cases l with
   | nil=>rfl
   | cons b l =>
    unfold Lib.hasPrefix below;by_cases e:b=45
    · subst e;simp [List.isPrefixOf]
    · have h1:((45:UInt8)==b)=false:=beq_eq_false_iff_ne.2 fun h=>e h.symm;have h2:(some b==some (45:UInt8))=false:=beq_eq_false_iff_ne.2 fun h=>e (Option.some.inj h);simp only [List.head?_cons,List.isPrefixOf,h1,h2,Bool.false_and]
  have hu:Lib.trimPrefix l [45]=zS l:=by
   unfold Lib.trimPrefix zS;rw [hb];by_cases e:below l=true
   · rw [if_pos e,if_pos e];cases l<;>rfl
   · rw [if_neg e,if_neg e]
  show Value.tuple #[S (Lib.trimPrefix l [45]),.bool (Lib.hasPrefix l [45])]=_;rw [hu,hb]⟩
theorem size392:(prog.info? 392).map (·.size)=some 256:=by kernel_rfl
theorem zero392:(prog.info? 392).bind (·.zero)=some (.agg (Array.replicate 256 (.bool false))):=by kernel_rfl
theorem zEu:∀ (vs cs:List Value) (o:Nat),o+vs.length≤cs.length→zAy cs o vs=cs.take o++(vs++cs.drop (o+vs.length))
 | [],cs,o,h=>by show cs=_;simp
 | v :: vs,cs,o,h=>by
  simp at h;show zAy (cs.set o v) (o+1) vs=_;rw [zEu vs (cs.set o v) (o+1) (by simp;omega),List.set_eq_take_append_cons_drop,if_pos (by omega)];have h1:(cs.take o).length=o:=by simp;omega
  rw [List.take_append,List.drop_append,h1,List.take_of_length_le (by omega),List.drop_of_length_le (l:=cs.take o) (by omega),show o+1-o=1 by omega,show o+1+vs.length-o=vs.length+1 by omega,show o+(v :: vs).length=o+1+vs.length by simp;omega];simp
theorem splice_all (cs l:List Value) (h:cs.length=l.length):zAy cs 0 l=l:=by
 rw [zEu _ _ _ (by omega),Nat.zero_add,List.drop_of_length_le (by omega)];simp
attribute [local irreducible] Runs WPE CallK Ret
theorem trimRight_ok (hlen:l0.length<1000000000) (hB:Blk w b 392 (Lib.setCells zDB).toList):Ret prog 346 #[S l0,.pointer (some ⟨b,0,none⟩)] w (fun r _=>∃ l,r=S l∧l.length≤l0.length∧(l0.all isDig=l.all isDig)∧(l=[]∨isDig (l.getD (l.length-1) 0)=false)):=by
 have E0:Ext w w:=Ext.refl w;refine J0 22 func346 rfl (rj fun K=>ag (rm [0,1] K ?_));refine zA (zG (zo (X:=Nat) (fun n ρ w'=>∃ l:List UInt8,l.length=n∧Keep ρ [(0,S l),(1,.pointer (some ⟨b,0,none⟩))]∧Ext w w'∧l.length≤l0.length∧(l0.all isDig=l.all isDig)∧(l0.all isDig=true→True)) (fun n=>n) l0.length ⟨l0,rfl,(kp rfl),E0,Nat.le_refl _,rfl,fun _=>trivial⟩ ?_));clear E0;rintro n ρ1 w1 ⟨l,hln,hk,E0,hll,hall,-⟩;refine wpe_k _ hk ?_;clear hk ρ1;refine zA (rJ fun K=>K1 (zAe zBF rfl (K8 rfl (rm [0,1,7] K ?_))));refine K0 rfl ?_ ?_<;>intro hc
 · rcases n with _ | n
   · have:=of_decide_eq_true hc;omega
   clear hc;refine sk (zG (zA (rJ fun K=>mv (mv (K1 (zAe zBF rfl (K1 (zAS (b:=1) (n) rfl rfl (by omega) (by omega) (K1 (zFd zBF rfl rfl (by omega) (K1 (j0 E0 hb364 ((zHe (hB.ext E0)).mono fun _ _ _ h=>h.2) fun vi w2 E0 hr => ?_))))))))))));subst hr;refine K1 (zAF rfl (rm [0,1,15] K ?_));refine K0 rfl ?_ ?_<;>intro hc
   · have hd:isDig (l.getD n 0)=false:=by simpa using hc
     clear hc;refine zi (zAE (zCY (by decide) (zv (zP (zN (rJ fun K=>ag (rm [1,4] K ?_)))))));refine zE (zQ ?_);exact ⟨rfl,_,zm rfl rfl,E0,l,rfl,hll,hall,by first | exact .inl hl0 | exact .inr (by rw [hln];exact hd)⟩
   · have hd:isDig (l.getD n 0)=true:=by simpa using hc
     clear hc;refine sk (rI fun K=>mv (K1 (zAe zBF rfl (K1 (zAS (b:=1) (n) rfl rfl (by omega) (by omega) (K1 (zGJ (n:=n) zBF rfl rfl (by omega) (ag (rl K (zT (zV ?_)))))))))));exact ⟨rfl,n,⟨l.take n,by simp;omega,(kp rfl),E0,by simp;omega,by rw [hall];conv=>{ lhs;rw [zIW hln] };rw [trimR _ _ hd],fun _=>trivial⟩,by omega⟩
 · have hl0:l=[]:=List.length_eq_zero_iff.1 (by have:=of_decide_eq_false hc;omega);clear hc;refine zi (zAE (zv (zP (zN (rJ fun K=>ag (rm [1,4] K ?_))))));refine zE (zQ ?_);exact ⟨rfl,_,zm rfl rfl,E0,l,rfl,hll,hall,by first | exact .inl hl0 | exact .inr (by rw [hln];exact hd)⟩
theorem trimLeft_ok (hlen:l0.length<1000000000) (hB:Blk w b 392 (Lib.setCells zDB).toList):Ret prog 345 #[S l0,.pointer (some ⟨b,0,none⟩)] w (fun r _=>∃ l,r=S l∧l.length≤l0.length∧(l0.all isDig=l.all isDig)∧(l=[]∨isDig (l.getD 0 0)=false)):=by
 have E0:Ext w w:=Ext.refl w;refine J0 16 func345 rfl (rj fun K=>ag (rm [0,1] K ?_));refine zA (zG (zo (X:=Nat) (fun n ρ w'=>∃ l:List UInt8,l.length=n∧Keep ρ [(0,S l),(1,.pointer (some ⟨b,0,none⟩))]∧Ext w w'∧l.length≤l0.length∧(l0.all isDig=l.all isDig)∧(l0.all isDig=true→True)) (fun n=>n) l0.length ⟨l0,rfl,(kp rfl),E0,Nat.le_refl _,rfl,fun _=>trivial⟩ ?_));clear E0;rintro n ρ1 w1 ⟨l,hln,hk,E0,hll,hall,-⟩;refine wpe_k _ hk ?_;clear hk ρ1;refine zA (rJ fun K=>K1 (zAe zBF rfl (K8 rfl (rm [0,1,7] K ?_))));refine K0 rfl ?_ ?_<;>intro hc
 · rcases n with _ | n
   · have:=of_decide_eq_true hc;omega
   clear hc;refine sk (zG (zA (rJ fun K=>mv (K1 (zFd (n:=0) zBF rfl rfl (by omega) (K1 (j0 E0 hb364 ((zHe (hB.ext E0)).mono fun _ _ _ h=>h.2) fun vi w2 E0 hr => ?_)))))));subst hr;refine K1 (zAF rfl (rm [0,1,12] K ?_));refine K0 rfl ?_ ?_<;>intro hc
   · have hd:isDig (l.getD 0 0)=false:=by simpa using hc
     clear hc;refine zi (zAE (zCY (by decide) (zv (zP (zN (rJ fun K=>ag (rm [1,4] K ?_)))))));exact zE (en rfl E0 ⟨l,rfl,hll,hall,by first | exact .inl hl0 | exact .inr hd⟩)
   · have hd:isDig (l.getD 0 0)=true:=by simpa using hc
     clear hc;refine sk (rI fun K=>K1 (zGK (n:=1) zBF rfl rfl (by omega) (ag (rl K (zT (zV ?_))))));exact ⟨rfl,n,⟨l.drop 1,by simp;omega,(kp rfl),E0,by simp;omega,by rw [hall];cases l with | nil=>rfl | cons x t=>(simp at hd;simp [hd]),fun _=>trivial⟩,by omega⟩
 · have hl0:l=[]:=List.length_eq_zero_iff.1 (by have:=of_decide_eq_false hc;omega);clear hc;refine zi (zAE (zv (zP (zN (rJ fun K=>ag (rm [1,4] K ?_))))));exact zE (en rfl E0 ⟨l,rfl,hll,hall,by first | exact .inl hl0 | exact .inr hd⟩)
end Go.Proofs.YtjiendlfobjanaaGreatDoor
namespace Go.Proofs.YtjiendlfobjanaaGreatDoor
open Go Go.RowKit Go.Proofs Tryz
set_option maxRecDepth 10000
set_option maxHeartbeats 2000000
attribute [local irreducible] Runs WPE CallK Ret
variable {l0:List UInt8} {w:World}
theorem setOk:(Lib.setCells zDB).toList.all zBl=true:=by
 rw [List.all_eq_true];intro v hv;rw [Lib.setCells_eq] at hv;simp at hv;obtain ⟨n,_,rfl⟩:=hv;rfl
theorem zJb {l:List UInt8} (h:l≠[]):(l==[])=false:=beq_eq_false_iff_ne.2 h
theorem TrimD_ok (hlen:l0.length<1000000000):Ret prog 307 #[S l0,S zDB] w (fun r _=>∃ t,r=S t∧(t=[]→l0.all isDig=true)∧(l0.all isDig=true→t=[])):=by
 refine J0 43 func307 rfl (rj fun K=>ag (rm [0,1] K ?_));refine zA (zA ?_);by_cases h0:l0=[]
 · subst h0;refine rI fun K=>K1 (zAs rfl rfl (mv (K3 (K3 (pc0 rfl (rs [0,1,12] K ?_))))));refine wct rfl (rJ fun K=>ag (rm [4] K ?_));exact zE (zY (en rfl E0 ⟨[],rfl,fun _=>rfl,fun _=>rfl⟩))
 · skip
   refine rI fun K=>K1 (zAs rfl rfl ?_);rw [zJb h0];refine mv (K7 (K2 (zAs rfl rfl (pc0 rfl (rs [0,1,12] K ?_)))));refine wcf rfl (sk (zA (rJ fun K=>K1 (zAe zBF rfl (K8 rfl (mv (K3 (K3 (K3 (pc0 rfl (rm [0,1,21] K ?_)))))))))));refine wcf rfl (sk (zA (rJ fun K=>K1 (j0 E0 hb344 (makeSet_ok) fun vi w2 E0 hr => ?_))));subst hr;refine mv (xt rfl (xt rfl ?_));refine K1 (zK zero392 fun b1 w7 hb hE hB1 hs => ?_);have hg1:w.heap.size≤b1:=by rw [hb];exact E0.size
   replace E0:=E0.trans hE;clear hE hb hs;refine K1 (zZ (n:=256) size392 rfl hB1 (Lib.setCells_size _) (by simp [Value.cells]) (by decide) setOk fun w9 hU hN => ?_);replace E0:=E0.upd hU hg1;have hB:Blk w9 b1 392 (Lib.setCells zDB).toList:=by
    have e:zAy (Value.agg (Array.replicate 256 (Value.bool false))).cells.toList 0 (Lib.setCells zDB).toList=(Lib.setCells zDB).toList:=splice_all _ _ (by simp [Value.cells,Lib.setCells_size]);rw [← e];exact hN
   clear hU hB1 hN;refine ag (rm [0,1,5,6] K ?_);refine rJ fun K=>rm [0,1,5,34] K ?_;refine wct rfl (rJ fun K=>K1 (j1 E0 hB.ext hb346 (trimRight_ok hlen hB) fun v36 w2 E0 hB hr => ?_));obtain ⟨l1,rfl,q1,q2,-⟩:=hr;refine K1 (j0 E0 hb345 (trimLeft_ok (by omega) hB) fun v37 w2 E0 hr => ?_);obtain ⟨l2,rfl,q3,q4,q5⟩:=hr;refine ag (rm [4] K ?_);refine zE (zY (en rfl E0 ⟨l2,rfl,fun e => ?_,fun e => ?_⟩))
   · rw [q2,q4,e];rfl
   · rcases q5 with q5 | q5
     · exact q5
     · cases l2 with
       | nil=>rfl
       | cons x t =>
        rw [q2,q4] at e;simp at e q5;rw [e.1] at q5;cases q5
theorem zHj {l:List UInt8} (hlen:l.length<1000000000):Ret prog 246 #[S l] w (fun r _=>r = .bool (zDZ l)):=by
 refine J0 10 func246 rfl (rj fun K=>ag (rm [0] K ?_));refine zA ?_;by_cases h0:l=[]
 · subst h0;refine rI fun K=>K1 (zDL rfl rfl (mv (K3 (K3 (K3 (pc0 rfl (ag (rs [2] K ?_))))))));refine zE (zQ ?_)
   first
   | exact ⟨rfl,_,zm rfl rfl,E0,rfl⟩
   | (refine ⟨rfl,_,zm rfl rfl,E0,congrArg Value.bool ?_⟩
      unfold zDZ;rw [show (l != [])=true from bne_iff_ne.2 h0,Bool.true_and];by_cases e:l.all isDig=true
      · rw [e,q2 e];rfl
      · rw [Bool.eq_false_iff.2 e,zJb (fun h=>e (q1 h))])
 · skip
   refine rI fun K=>K1 (zDL rfl rfl ?_);rw [show (l != [])=true from bne_iff_ne.2 h0];refine mv (K7 (K2 (j0 E0 hb307 (TrimD_ok hlen) fun v7 w2 E0 hr => ?_)));obtain ⟨t,rfl,q1,q2⟩:=hr;refine K2 (zAs rfl rfl (pc0 rfl (ag (rs [2] K ?_))));refine zE (zQ ?_)
   first
   | exact ⟨rfl,_,zm rfl rfl,E0,rfl⟩
   | (refine ⟨rfl,_,zm rfl rfl,E0,congrArg Value.bool ?_⟩
      unfold zDZ;rw [show (l != [])=true from bne_iff_ne.2 h0,Bool.true_and];by_cases e:l.all isDig=true
      · rw [e,q2 e];rfl
      · rw [Bool.eq_false_iff.2 e,zJb (fun h=>e (q1 h))])
theorem zCr {l:List UInt8} (hlen:l.length<1000000000):Ret prog 153 #[S l] w (fun r _=>r = .bool (zBC l)):=by
 refine J0 14 func153 rfl (rj fun K=>ag (rm [0] K ?_));refine zA ?_;rcases (show zDZ l=false∨(zDZ l=true∧(l==[48])=true)∨(zDZ l=true∧(l==[48])=false) from by cases zDZ l<;>cases (l==[48])<;>simp) with hd | ⟨hd,hz⟩ | ⟨hd,hz⟩
 · skip
   refine rI fun K=>K1 (j0 E0 hb246 (zHj hlen) fun vi w2 E0 hr => ?_);subst hr;rw [hd];refine mv (K3 (K3 (K3 (K3 (K3 (K3 (K3 (pc0 rfl (ag (rs [2] K ?_))))))))));refine zE (zQ ?_);exact ⟨rfl,_,zm rfl rfl,E0,by unfold zBC;rw [hd];rfl⟩
 · skip
   refine rI fun K=>K1 (j0 E0 hb246 (zHj hlen) fun vi w2 E0 hr => ?_);subst hr;rw [hd];refine mv (K7 (K2 (zAs rfl rfl ?_)));rw [hz];refine K7 (K3 (K3 (K3 (K2 (zAd rfl (pc0 rfl (ag (rs [2] K ?_))))))));refine zE (zQ ?_);exact ⟨rfl,_,zm rfl rfl,E0,by unfold zBC;rw [hd,hz];rfl⟩
 · have hl0:0<l.length:=by
    cases l with
    | nil=>cases hd
    | cons x t=>simp
   refine rI fun K=>K1 (j0 E0 hb246 (zHj hlen) fun vi w2 E0 hr => ?_);subst hr;rw [hd];refine mv (K7 (K2 (zAs rfl rfl ?_)));rw [hz];refine K7 (K7 (K2 (zFd (n:=0) zBF rfl rfl hl0 (K2 (zH rfl rfl rfl (K2 (zAd rfl (pc0 rfl (ag (rs [2] K ?_))))))))));refine zE (en rfl E0 (congrArg Value.bool ?_));unfold zBC;rw [hd,hz,Bool.true_and,Bool.false_or];by_cases e:l.getD 0 0=48
   · rw [e];rfl
   · have e2:(l.getD 0 0 != 48)=true:=bne_iff_ne.2 e;have e3:(l.getD 0 0).toNat≠48:=fun h=>e (UInt8.toNat_inj.1 h);rw [e2];exact bne_iff_ne.2 (fun h=>e3 (by omega))
variable {a b k:Nat}
theorem natS_take {l:List UInt8} (h:k<l.length):natS (l.take (k+1))=10*natS (l.take k)+((l.getD k 0).toNat-48):=by
 rw [List.take_succ_eq_append_getElem h,zKZ,List.getD_eq_getElem?_getD,List.getElem?_eq_getElem h];rfl
theorem dig_at {l:List UInt8} (h:k<l.length) (hd:l.all isDig=true):48≤(l.getD k 0).toNat∧(l.getD k 0).toNat≤57:=by
 have h1:=List.all_eq_true.1 hd (l.getD k 0) (by rw [List.getD_eq_getElem?_getD,List.getElem?_eq_getElem h];exact List.getElem_mem h);unfold isDig at h1;simpa using h1
theorem wrap32 {x:Int} (h0:0≤x) (h1:x<1000):IntKind.i32.wrap x=x:=by
 have:x%4294967296=x:=by omega
 simp [IntKind.wrap,IntKind.bits,IntKind.signed,this];omega
theorem under21':prog.underlying 21=some (.int .i32):=by kernel_rfl
theorem under164':prog.underlying 164=some (.int .u64):=by kernel_rfl
theorem zLe (h:a≤b) (hb:Fit b):Fit a:=hb.le h
theorem zFt (h:a<18446744073709551616):Fit a:=by
 unfold Fit;by_cases h0:a=0
 · subst h0;decide
 · have h1:a<2^64:=h;have:=(Nat.log2_lt h0).2 h1;omega
theorem cut2_ok {l:List UInt8} {c:UInt8} (hlen:l.length<1000000000):Ret prog 245 #[S l,S [c]] w (fun r _=>r = .tuple #[S (cutAt c l).1,S (cutAt c l).2.1,.bool (cutAt c l).2.2]):=by
 refine J0 23 func245 rfl (rj fun K=>ag (ag (ag (rm [0,1] K ?_))));refine zA (rJ fun K=>mv (K1 (j0 E0 hb306 (index47_ok) fun vi w2 E0 hr => ?_)));subst hr;refine ag (rm [0,1,7] K ?_);refine zA ?_;rcases zKJ c l with ⟨h1,h2⟩ | ⟨n,h1,h2,h3⟩
 · rw [h1];refine rI fun K=>K8 rfl (rs [0,1,7,12] K ?_);refine wcf rfl (sk (rJ fun K=>ag (ag (ag (rm [4,5,6] K ?_)))));refine zE (zQ ?_);exact ⟨rfl,_,zCZ rfl rfl rfl rfl,E0,by rw [h2];rfl⟩
 · rw [h1];refine rI fun K=>K8 rfl (rs [0,1,7,12] K ?_);refine wct (congrArg Value.bool (decide_eq_true (by omega))) (zA (zEw mixed rfl rfl fun K hK=>qr rfl (fun wx hE=>zF ⟨rfl,Ext.refl _⟩) (qr rfl (fun wx hE=>zF ⟨rfl,Ext.refl _⟩) (qr rfl (fun wx hE=>zGJ (n:=n) zBF rfl rfl (by omega) ⟨rfl,Ext.refl _⟩) (qr rfl (fun wx hE=>zF ⟨rfl,Ext.refl _⟩) (qr rfl (fun wx hE=>zF ⟨rfl,Ext.refl _⟩) (qr rfl (fun wx hE=>zF ⟨rfl,Ext.refl _⟩) (qr rfl (fun wx hE=>zAe zBF rfl ⟨rfl,Ext.refl _⟩) (qr rfl (fun wx hE=>zy (b:=1) (n+1) rfl rfl rfl (by omega) ⟨rfl,Ext.refl _⟩) (qr rfl (fun wx hE=>zGK (n:=n+1) zBF rfl rfl (by omega) ⟨rfl,Ext.refl _⟩) (qr rfl (fun wx hE=>zp ⟨rfl,Ext.refl _⟩) (qr rfl (fun wx hE=>zp ⟨rfl,Ext.refl _⟩) (qr rfl (fun wx hE=>zp ⟨rfl,Ext.refl _⟩) ?_)))))))))))));refine hK _ fun wq hE => ?_;replace E0:=E0.trans hE;clear hE;refine zN (K5 [4,5,6] ?_);refine zE (zY (zQ ?_));exact ⟨rfl,_,zCZ rfl rfl rfl rfl,E0,by rw [h3];rfl⟩
theorem Cut_ok {l:List UInt8} {c:UInt8} (hlen:l.length<1000000000):Ret prog 152 #[S l,S [c]] w (fun r _=>r = .tuple #[S (cutAt c l).1,S (cutAt c l).2.1,.bool (cutAt c l).2.2]):=by
 refine J0 13 func152 rfl (rj fun K=>ag (ag (ag (rm [0,1] K ?_))));refine rJ fun K=>mv (K1 (j0 E0 hb245 (cut2_ok hlen) fun vi w2 E0 hr => ?_));subst hr;refine xt rfl (xt rfl (xt rfl (ag (ag (ag (rm [4,5,6] K ?_))))));exact zE (zQ ⟨rfl,_,zCZ rfl rfl rfl rfl,E0,rfl⟩)
theorem zHS {l:List UInt8} (hl:l.length≤1000) (hd:l.all isDig=true):Ret prog 154 #[S l] w (fun r w'=>IsW w' r (natS l)):=by
 have E0:Ext w w:=Ext.refl w;refine J0 37 func154 rfl (rj fun K=>ag (rm [0] K ?_));refine rj fun K=>ag (rm [0,3] K ?_);refine rj fun K=>ag (ag (rm [0,3,4,5] K ?_));refine zA (rJ fun K=>K1 (runs_srange zBF rfl fun ib w7 hb hE hI => ?_));have hib:w.heap.size≤ib:=by rw [hb];exact E0.size
 replace E0:=E0.trans hE;clear hE hb;refine rm [3,4,5,9] K ?_;refine zG (zo (X:=Nat) (fun k ρ w'=>∃ (va:Value) (n p f j:Nat),Keep ρ [(3,va),(4,.int .u64 (p:Int)),(5,.int .u64 (f:Int)),(9,.pointer (some ⟨ib,0,none⟩))]∧k≤l.length∧Ext w w'∧w'.heap[ib]? = some (.stringIter ⟨l.toArray⟩ k)∧IsW w' va n∧p<f∧f=10^j∧j<18∧natS (l.take k)=n*f+p) (fun k=>l.length-k) 0 ⟨_,0,0,1,0,(kp rfl),Nat.zero_le _,E0,hI,IsW.nil rfl,by decide,rfl,by decide,rfl⟩ ?_);clear E0 hI;rintro k ρ1 w1 ⟨va,n,p,f,j,hk,hkl,E0,hI,hA,hpf,hfj,hj,hnat⟩;refine wpe_k _ hk ?_;clear hk ρ1;have hfl:f≤100000000000000000:=by rw [hfj];exact Nat.le_trans (Nat.pow_le_pow_right (by decide) (show j≤17 by omega)) (by decide)
 have hf1:1≤f:=by rw [hfj];exact Nat.one_le_pow _ _ (by decide)
 refine zA ?_;by_cases hkk:k<l.length
 · obtain ⟨hd1,hd2⟩:=dig_at hkk hd;have hnat2:natS (l.take (k+1))=n*(10*f)+(10*p+((l.getD k 0).toNat-48)):=by
    rw [natS_take hkk,hnat,Nat.mul_add,Nat.mul_left_comm];omega
   refine K6 fun K=>K1 (runs_snext rfl hI hkk (by omega) fun w7 hO hI2 => ?_);replace E0:=E0.oth hO hib;replace hA:=hA.le hO.le;clear hO hI hnat;have hnat:=hnat2;clear hnat2;have hfit:Fit (natS (l.take (k+1))):=zFB (by simp;omega) (by rw [List.all_eq_true] at hd ⊢;exact fun x hx=>hd x (List.mem_of_mem_take hx));refine xt rfl (rs [3,4,5,9,10,11] K ?_);refine zA (wct rfl (sk (zG (rj fun K=>xt rfl (ag (rm [3,4,5,7,9] K ?_))))));refine rJ fun K=>K1 (zCT (a:=10) (10*p) rfl rfl rfl (by omega) (mv ?_));refine K1 (zH (v := .int .i32 (((l.getD k 0).toNat-48:Nat):Int)) rfl rfl (congrArg (fun z=>some (Value.int .i32 z)) (by rw [wrap32 (by omega) (by omega)];omega)) ?_);refine K1 (zGl ((l.getD k 0).toNat-48) under21' under164' rfl (by omega) (K1 (zCD (10*p+((l.getD k 0).toNat-48)) rfl rfl rfl (by omega) (mv (K1 (zCT (a:=10) (10*f) rfl rfl rfl (by omega) (ag (ag (rm [3,4,5,9] K ?_)))))))));refine rJ fun K=>K8 rfl (rm [3,4,5,9,22] K ?_);refine K0 rfl ?_ ?_<;>intro hc
   · have h18:10*f=1000000000000000000:=t_beq hc;clear hc;refine rI fun K=>mv (K1 (zC hb105 (CallK.of_ret (zEv (d:=10*f) (by omega)) fun v1 w2 hE N1 => ?_) rfl));replace E0:=E0.trans hE;replace hA:=hA.ext hE;replace hI2:=hE.heap hI2;clear hE;refine K1 (zC hb103 (CallK.of_ret (zDk hA N1 (zLe (by rw [hnat];exact Nat.le_trans (Nat.le_mul_of_pos_right _ (by omega)) (Nat.le_add_right _ _)) hfit) (zFt (by omega))) fun v2 w2 hE N2 => ?_) rfl);replace E0:=E0.trans hE;replace hI2:=hE.heap hI2;clear hE;clear hA N1;refine mv (K1 (zC hb105 (CallK.of_ret (zEv (d:=10*p+((l.getD k 0).toNat-48)) (by omega)) fun v3 w2 hE N3 => ?_) rfl));replace E0:=E0.trans hE;replace N2:=N2.ext hE;replace hI2:=hE.heap hI2;clear hE;refine K1 (zC hb234 (CallK.of_ret (zMi N2 N3 (zLe (by rw [hnat];exact Nat.le_add_right _ _) hfit) (zFt (by omega))) fun v4 w2 hE N4 => ?_) rfl);replace E0:=E0.trans hE;replace hI2:=hE.heap hI2;clear hE;clear N2 N3;refine ag (ag (ag (rl K (zT (zV ?_)))));exact ⟨rfl,k+1,⟨v4,n*(10*f)+(10*p+((l.getD k 0).toNat-48)),0,1,0,(kp rfl),by omega,E0,hI2,N4,by decide,rfl,by decide,by rw [hnat];simp⟩,by omega⟩
   · have h18:10*f≠1000000000000000000:=f_beq hc;have hj17:j≠17:=fun e=>h18 (by rw [hfj,e]);clear hc;exact zz (zT (zV (⟨rfl,k+1,⟨va,n,10*p+((l.getD k 0).toNat-48),10*f,j+1,(kp rfl),by omega,E0,hI2,hA,by omega,by rw [hfj,Nat.pow_succ,Nat.mul_comm],by omega,hnat⟩,by omega⟩)))
 · obtain rfl:k=l.length:=by omega
   rw [List.take_length] at hnat;have hfit:=zFB hl hd;refine K6 fun K=>K1 (runs_snext_end rfl hI (Nat.le_refl _) ?_);clear hI;refine xt rfl (rs [3,4,5,9,10,11] K ?_);refine zA (wcf rfl (zi (zAE (zv (zP (zN (rJ fun K=>mv (K1 (j1 E0 hA.ext hb105 (zEv (d:=f) (by omega)) fun v1 w2 E0 hA N1 => ?_)))))))));refine K1 (j0 E0 hb103 (zDk hA N1 (zLe (by rw [hnat];exact Nat.le_trans (Nat.le_mul_of_pos_right _ (by omega)) (Nat.le_add_right _ _)) hfit) (zFt (by omega))) fun v2 w2 E0 N2 => ?_);clear hA N1;refine mv (K1 (j1 E0 N2.ext hb105 (zEv (d:=p) (by omega)) fun v3 w2 E0 N2 N3 => ?_));refine K1 (j0 E0 hb234 (zMi N2 N3 (zLe (by rw [hnat];exact Nat.le_add_right _ _) hfit) (zFt (by omega))) fun v4 w2 E0 N4 => ?_);clear N2 N3;refine ag (rm [2,4,5,9] K ?_);refine zE (zQ ?_);exact ⟨rfl,_,zm rfl rfl,E0,by rw [hnat];exact N4⟩
theorem zCR {l:List UInt8} (h:zBC l=true):l.all isDig=true:=by
 unfold zBC zDZ at h;simp only [Bool.and_eq_true] at h;exact h.1.2
theorem zKI (c:UInt8):∀ l:List UInt8,(cutAt c l).1.length≤l.length∧(cutAt c l).2.1.length≤l.length
 | []=>⟨Nat.le_refl _,Nat.le_refl _⟩
 | b :: l=>by
  have h:=zKI c l;unfold cutAt;split
  · simp
  · simp;omega
theorem unsigned_len (l:List UInt8):(zS l).length≤l.length:=by
 unfold zS;split<;>simp
theorem zIB {l:List UInt8} (h:zBC l=true) (h0:(l==[48])=false):natS l≠0∧((l==[49])=false→natS l≠1):=by
 have hd:=zCR h;unfold zBC zDZ at h;simp only [Bool.and_eq_true,h0,Bool.false_or] at h;cases l with
 | nil=>exact absurd h.1.1 (by decide)
 | cons b t =>
  have hb:b≠48:=by have:=h.2;simpa using this
  have hbd:isDig b=true:=by simp at hd;exact hd.1
  have hb2:1≤b.toNat-48:=by
   unfold isDig at hbd;simp at hbd;have:b.toNat≠48:=fun e=>hb (UInt8.toNat_inj.1 e);omega
  have key:∀ (t:List UInt8) (n:Nat),n≤t.foldl (fun n b=>10*n+(b.toNat-48)) n∧(t≠[]→1≤n→10≤t.foldl (fun n b=>10*n+(b.toNat-48)) n):=fun t=>by
   induction t with
   | nil=>intro n;exact ⟨Nat.le_refl _,fun h=>absurd rfl h⟩
   | cons c t ih =>
    intro n;have h1:=(ih (10*n+(c.toNat-48))).1;simp only [List.foldl_cons];exact ⟨by omega,fun _ h=>by omega⟩
  have e:natS (b :: t)=t.foldl (fun n b=>10*n+(b.toNat-48)) (b.toNat-48):=by unfold natS;simp
  rw [e];have h1:=key t (b.toNat-48);refine ⟨by omega,fun h49 => ?_⟩;by_cases ht:t=[]
  · subst ht;simp at h49 ⊢;intro e1;have:b.toNat=49:=by omega
    exact h49 (UInt8.toNat_inj.1 this)
  · have:=h1.2 ht hb2;omega
theorem zAv (l:List UInt8):zr l =
 if (!zBC (cutAt 47 (zS l)).1 || ((cutAt 47 (zS l)).1==[48]&&(below l || (cutAt 47 (zS l)).2.2)))=true then (0,6)
 else if ((cutAt 47 (zS l)).2.2&&(!zBC (cutAt 47 (zS l)).2.1 || (cutAt 47 (zS l)).2.1==[48] || (cutAt 47 (zS l)).2.1==[49]))=true then (0,6)
 else if 1000<(cutAt 47 (zS l)).1.length∨1000<(cutAt 47 (zS l)).2.1.length then (0,3)
 else if (!(cutAt 47 (zS l)).2.2)=true then (qOf (below l) (natS (cutAt 47 (zS l)).1) 1,0)
 else if Nat.gcd (natS (cutAt 47 (zS l)).1) (natS (cutAt 47 (zS l)).2.1)≠1 then (0,6) else (qOf (below l) (natS (cutAt 47 (zS l)).1) (natS (cutAt 47 (zS l)).2.1),0):=rfl
theorem numOf_ratio {n d:Value} {s:Bool} (hn:IsW w n a) (hd:IsW w d b) (ha:a≠0) (hb:b≠0) (hb1:b≠1) (hg:Nat.gcd a b=1):IsNum w (.agg #[.bool s,n,d]) (qOf s a b):=by
 have h1:=zNK (s:=s) (a:=a) hb;have h2:=zNH (s:=s) (a:=a) hb;have h3:=zNJ (s:=s) ha hb;rw [hg,Nat.div_one] at h1 h2;refine ⟨n,d,by rw [h3],by rw [h1];exact hn,by rw [h2,if_neg hb1];exact hd⟩
theorem zJT {l:List UInt8} (hlen:l.length<1000000000):Ret prog 65 #[S l] w (fun r w'=>∃ u,r = .tuple #[u,.int .i64 (zr l).2]∧IsNum w' u (zr l).1):=by
 refine J0 85 func65 rfl (rj fun K => ?_);refine K1 (zK zAP fun b1 w1 hb hE hB1 hs => ?_);have hgb1:w.heap.size≤b1:=by rw [hb];exact E0.size
 replace E0:=E0.trans hE;clear hE hs hb;refine ag (rm [0,2] K ?_);refine zA ?_;have hul:=unsigned_len l;have hcl:=zKI 47 (zS l);refine rI fun K=>K1 (j1 E0 hB1.ext hb151 (cutPrefix_ok) fun vi w2 E0 hB1 hr => ?_);subst hr;refine mv (xt rfl (xt rfl (ag (ag (rs [2,4,5] K ?_)))));refine rJ fun K=>K1 (j1 E0 hB1.ext hb152 (Cut_ok (by omega)) fun vi w2 E0 hB1 hr => ?_);subst hr;refine mv (xt rfl (xt rfl (xt rfl (ag (ag (ag (rm [2,5,6,7,8] K ?_)))))));refine zA (zG (zA ?_));rcases (show zBC (cutAt 47 (zS l)).1=false∨(zBC (cutAt 47 (zS l)).1=true∧((cutAt 47 (zS l)).1==[48])=false)∨(zBC (cutAt 47 (zS l)).1=true∧((cutAt 47 (zS l)).1==[48])=true∧below l=true)∨(zBC (cutAt 47 (zS l)).1=true∧((cutAt 47 (zS l)).1==[48])=true∧below l=false∧(cutAt 47 (zS l)).2.2=true)∨(zBC (cutAt 47 (zS l)).1=true∧((cutAt 47 (zS l)).1==[48])=true∧below l=false∧(cutAt 47 (zS l)).2.2=false) from by cases zBC (cutAt 47 (zS l)).1<;>cases ((cutAt 47 (zS l)).1==[48])<;>cases below l<;>cases (cutAt 47 (zS l)).2.2<;>simp) with hp | ⟨hp,hz⟩ | ⟨hp,hz,hbl⟩ | ⟨hp,hz,hbl,ht⟩ | ⟨hp,hz,hbl,ht⟩
 · have hA:(!zBC (cutAt 47 (zS l)).1 || ((cutAt 47 (zS l)).1==[48]&&(below l || (cutAt 47 (zS l)).2.2)))=true:=by rw [hp];simp
   have he:zr l=(0,6):=by rw [zAv,hA,if_pos rfl]
   refine rI fun K=>K1 (j1 E0 hB1.ext hb153 (zCr (by omega)) fun vi w2 E0 hB1 hr => ?_);subst hr;rw [hp];refine K1 (zAF rfl (mv (K3 (K3 (K3 (K3 (K3 (K3 (K3 (K3 (pc0 rfl (ag (rs [2,5,6,7,8,22] K ?_)))))))))))));refine wct rfl (rj fun K=>K1 (zj (cs := #[.bool false,.slice none 0 0,.slice none 0 0]) (by kernel_rfl) (K1 (zI rfl IsNum.zero (Cell3.of hB1 rfl) fun _ w9 hU hN4 => ?_))));replace E0:=E0.upd hU hgb1;obtain ⟨cs4,hB4,hl4,hN4⟩:=hN4;refine ag (rm [2,3] K ?_);refine zE (zh (zY (zQ ?_)));exact ⟨rfl,_,zu rfl rfl rfl rfl zAB hB4 hl4,E0,_,by rw [he];rfl,by rw [he];exact hN4⟩
 · have hA:(!zBC (cutAt 47 (zS l)).1 || ((cutAt 47 (zS l)).1==[48]&&(below l || (cutAt 47 (zS l)).2.2)))=false:=by rw [hp,hz];simp
   refine rI fun K=>K1 (j1 E0 hB1.ext hb153 (zCr (by omega)) fun vi w2 E0 hB1 hr => ?_);subst hr;rw [hp];refine K1 (zAF rfl (mv (K7 (K2 (zAs rfl rfl ?_)))));rw [hz];refine K7 (K3 (K3 (K3 (K3 (K2 (zAd rfl (pc0 rfl (ag (rs [2,5,6,7,8,22] K ?_)))))))));refine wcf rfl (zA ?_);rcases (show (cutAt 47 (zS l)).2.2=false∨((cutAt 47 (zS l)).2.2=true∧zBC (cutAt 47 (zS l)).2.1=false)∨((cutAt 47 (zS l)).2.2=true∧zBC (cutAt 47 (zS l)).2.1=true∧((cutAt 47 (zS l)).2.1==[48])=true)∨((cutAt 47 (zS l)).2.2=true∧zBC (cutAt 47 (zS l)).2.1=true∧((cutAt 47 (zS l)).2.1==[48])=false∧((cutAt 47 (zS l)).2.1==[49])=true)∨((cutAt 47 (zS l)).2.2=true∧zBC (cutAt 47 (zS l)).2.1=true∧((cutAt 47 (zS l)).2.1==[48])=false∧((cutAt 47 (zS l)).2.1==[49])=false) from by cases (cutAt 47 (zS l)).2.2<;>cases zBC (cutAt 47 (zS l)).2.1<;>cases ((cutAt 47 (zS l)).2.1==[48])<;>cases ((cutAt 47 (zS l)).2.1==[49])<;>simp) with h2 | ⟨h2,hq⟩ | ⟨h2,hq,h48⟩ | ⟨h2,hq,h48,h49⟩ | ⟨h2,hq,h48,h49⟩
   · have hBf:((cutAt 47 (zS l)).2.2&&(!zBC (cutAt 47 (zS l)).2.1 || (cutAt 47 (zS l)).2.1==[48] || (cutAt 47 (zS l)).2.1==[49]))=false:=by rw [h2];rfl
     refine K6 fun K=>mv ?_
     try rw [h2]
     refine mv (K3 (K3 (K3 (K3 (K3 (K3 (K3 (K3 (K3 (K3 (K3 (pc0 rfl (ag (rl K ?_))))))))))))));refine zN (K5 [2,5,6,7,8,37] ?_);refine wcf rfl (zA ?_);rcases (show 1000<(cutAt 47 (zS l)).1.length∨(¬ 1000<(cutAt 47 (zS l)).1.length∧1000<(cutAt 47 (zS l)).2.1.length)∨(¬ 1000<(cutAt 47 (zS l)).1.length∧¬ 1000<(cutAt 47 (zS l)).2.1.length) from by omega) with k1 | ⟨k1,k2⟩ | ⟨k1,k2⟩
     · have he:zr l=(0,3):=by rw [zAv,hA,if_neg (by decide),hBf,if_neg (by decide),if_pos (.inl k1)]
       refine rI fun K=>K1 (zAe zBF rfl (K9 true rfl (decide_eq_true (by omega)) (mv (K3 (K3 (K3 (pc0 rfl (ag (rs [2,5,6,7,8,53] K ?_)))))))));refine wct rfl (rj fun K=>K1 (zj (cs := #[.bool false,.slice none 0 0,.slice none 0 0]) (by kernel_rfl) (K1 (zI rfl IsNum.zero (Cell3.of hB1 rfl) fun _ w9 hU hN4 => ?_))));replace E0:=E0.upd hU hgb1;obtain ⟨cs4,hB4,hl4,hN4⟩:=hN4;refine ag (rm [2,3] K ?_);refine zE (zh (zY (zQ ?_)));exact ⟨rfl,_,zu rfl rfl rfl rfl zAB hB4 hl4,E0,_,by rw [he];rfl,by rw [he];exact hN4⟩
     · have he:zr l=(0,3):=by rw [zAv,hA,if_neg (by decide),hBf,if_neg (by decide),if_pos (.inr k2)]
       refine rI fun K=>K1 (zAe zBF rfl (K9 false rfl (decide_eq_false (by omega)) (mv (K7 (K2 (zAe zBF rfl (K2 (zH (v := .bool true) rfl rfl (congrArg (fun z=>some (Value.bool z)) (decide_eq_true (by omega))) (pc0 rfl (ag (rs [2,5,6,7,8,53] K ?_)))))))))));refine wct rfl (rj fun K=>K1 (zj (cs := #[.bool false,.slice none 0 0,.slice none 0 0]) (by kernel_rfl) (K1 (zI rfl IsNum.zero (Cell3.of hB1 rfl) fun _ w9 hU hN4 => ?_))));replace E0:=E0.upd hU hgb1;obtain ⟨cs4,hB4,hl4,hN4⟩:=hN4;refine ag (rm [2,3] K ?_);refine zE (zh (zY (zQ ?_)));exact ⟨rfl,_,zu rfl rfl rfl rfl zAB hB4 hl4,E0,_,by rw [he];rfl,by rw [he];exact hN4⟩
     · have hlen7:¬ (1000<(cutAt 47 (zS l)).1.length∨1000<(cutAt 47 (zS l)).2.1.length):=by omega
       have he:zr l=(qOf (below l) (natS (cutAt 47 (zS l)).1) 1,0):=by rw [zAv,hA,if_neg (by decide),hBf,if_neg (by decide),if_neg hlen7,h2];rfl
       refine rI fun K=>K1 (zAe zBF rfl (K9 false rfl (decide_eq_false (by omega)) (mv (K7 (K2 (zAe zBF rfl (K2 (zH (v := .bool false) rfl rfl (congrArg (fun z=>some (Value.bool z)) (decide_eq_false (by omega))) (pc0 rfl (ag (rs [2,5,6,7,8,53] K ?_)))))))))));refine wcf rfl (rj fun K=>mv ?_)
       try rw [h2]
       refine K1 (zAF rfl (ag (rm [2,5,6,7,63] K ?_)));refine wct rfl (rJ fun K=>mv (K1 (j1 E0 hB1.ext hb154 (zHS (by omega) (zCR hp)) fun v68 w2 E0 hB1 N68=>K1 (j2 E0 hB1.ext N68.ext hb106 (zHA _) fun v69 w2 E0 hB1 N68 N69=>K1 (j1 E0 hB1.ext hb102 (zBT N68 N69 (by decide) (zFB (by omega) (zCR hp)) zJd) fun v70 w2 E0 hB1 N70=>K1 (zI rfl N70 (Cell3.of hB1 rfl) fun _ w9 hU hN4 => ?_))))));replace E0:=E0.upd hU hgb1;obtain ⟨cs4,hB4,hl4,hN4⟩:=hN4;refine ag (rm [2,3] K ?_);refine zE (zh (zY (zQ ?_)));exact ⟨rfl,_,zu rfl rfl rfl rfl zAB hB4 hl4,E0,_,by rw [he];rfl,by rw [he];exact hN4⟩
   · have he:zr l=(0,6):=by rw [zAv,hA,if_neg (by decide),if_pos (by rw [h2];simp [hq])]
     refine K6 fun K=>mv ?_
     try rw [h2]
     refine mv (K7 (K2 (j1 E0 hB1.ext hb153 (zCr (by omega)) fun vi w2 E0 hB1 hr => ?_)));subst hr;rw [hq];refine K2 (zAF rfl (K7 (K3 (K3 (K2 (zAd rfl (K7 (K3 (K3 (K2 (zAd rfl (pc0 rfl (ag (rs [2,5,6,7,8,37] K ?_))))))))))))));refine wct rfl (rj fun K=>K1 (zj (cs := #[.bool false,.slice none 0 0,.slice none 0 0]) (by kernel_rfl) (K1 (zI rfl IsNum.zero (Cell3.of hB1 rfl) fun _ w9 hU hN4 => ?_))));replace E0:=E0.upd hU hgb1;obtain ⟨cs4,hB4,hl4,hN4⟩:=hN4;refine ag (rm [2,3] K ?_);refine zE (zh (zY (zQ ?_)));exact ⟨rfl,_,zu rfl rfl rfl rfl zAB hB4 hl4,E0,_,by rw [he];rfl,by rw [he];exact hN4⟩
   · have he:zr l=(0,6):=by rw [zAv,hA,if_neg (by decide),if_pos (by rw [h2];simp [hq,h48])]
     refine K6 fun K=>mv ?_
     try rw [h2]
     refine mv (K7 (K2 (j1 E0 hB1.ext hb153 (zCr (by omega)) fun vi w2 E0 hB1 hr => ?_)));subst hr;rw [hq];refine K2 (zAF rfl (K7 (K7 (K2 (zAs rfl rfl ?_)))));rw [h48];refine K2 (zAd rfl (K7 (K3 (K3 (K2 (zAd rfl (pc0 rfl (ag (rs [2,5,6,7,8,37] K ?_)))))))));refine wct rfl (rj fun K=>K1 (zj (cs := #[.bool false,.slice none 0 0,.slice none 0 0]) (by kernel_rfl) (K1 (zI rfl IsNum.zero (Cell3.of hB1 rfl) fun _ w9 hU hN4 => ?_))));replace E0:=E0.upd hU hgb1;obtain ⟨cs4,hB4,hl4,hN4⟩:=hN4;refine ag (rm [2,3] K ?_);refine zE (zh (zY (zQ ?_)));exact ⟨rfl,_,zu rfl rfl rfl rfl zAB hB4 hl4,E0,_,by rw [he];rfl,by rw [he];exact hN4⟩
   · have he:zr l=(0,6):=by rw [zAv,hA,if_neg (by decide),if_pos (by rw [h2];simp [hq,h48,h49])]
     refine K6 fun K=>mv ?_
     try rw [h2]
     refine mv (K7 (K2 (j1 E0 hB1.ext hb153 (zCr (by omega)) fun vi w2 E0 hB1 hr => ?_)));subst hr;rw [hq];refine K2 (zAF rfl (K7 (K7 (K2 (zAs rfl rfl ?_)))));rw [h48];refine K2 (zAd rfl (K7 (K7 (K2 (zAs rfl rfl ?_)))));rw [h49];refine K2 (zAd rfl (pc0 rfl (ag (rs [2,5,6,7,8,37] K ?_))));refine wct rfl (rj fun K=>K1 (zj (cs := #[.bool false,.slice none 0 0,.slice none 0 0]) (by kernel_rfl) (K1 (zI rfl IsNum.zero (Cell3.of hB1 rfl) fun _ w9 hU hN4 => ?_))));replace E0:=E0.upd hU hgb1;obtain ⟨cs4,hB4,hl4,hN4⟩:=hN4;refine ag (rm [2,3] K ?_);refine zE (zh (zY (zQ ?_)));exact ⟨rfl,_,zu rfl rfl rfl rfl zAB hB4 hl4,E0,_,by rw [he];rfl,by rw [he];exact hN4⟩
   · have hBf:((cutAt 47 (zS l)).2.2&&(!zBC (cutAt 47 (zS l)).2.1 || (cutAt 47 (zS l)).2.1==[48] || (cutAt 47 (zS l)).2.1==[49]))=false:=by rw [h2,hq,h48,h49];rfl
     have hn0:natS (cutAt 47 (zS l)).1≠0:=(zIB hp (by cases hz:((cutAt 47 (zS l)).1==[48])<;>simp_all)).1;refine K6 fun K=>mv ?_
     try rw [h2]
     refine mv (K7 (K2 (j1 E0 hB1.ext hb153 (zCr (by omega)) fun vi w2 E0 hB1 hr => ?_)));subst hr;rw [hq];refine K2 (zAF rfl (K7 (K7 (K2 (zAs rfl rfl ?_)))));rw [h48];refine K2 (zAd rfl (K7 (K7 (K2 (zAs rfl rfl ?_)))));rw [h49];refine K2 (zAd rfl (pc0 rfl (ag (rs [2,5,6,7,8,37] K ?_))));refine wcf rfl (zA ?_);rcases (show 1000<(cutAt 47 (zS l)).1.length∨(¬ 1000<(cutAt 47 (zS l)).1.length∧1000<(cutAt 47 (zS l)).2.1.length)∨(¬ 1000<(cutAt 47 (zS l)).1.length∧¬ 1000<(cutAt 47 (zS l)).2.1.length) from by omega) with k1 | ⟨k1,k2⟩ | ⟨k1,k2⟩
     · have he:zr l=(0,3):=by rw [zAv,hA,if_neg (by decide),hBf,if_neg (by decide),if_pos (.inl k1)]
       refine rI fun K=>K1 (zAe zBF rfl (K9 true rfl (decide_eq_true (by omega)) (mv (K3 (K3 (K3 (pc0 rfl (ag (rs [2,5,6,7,8,53] K ?_)))))))));refine wct rfl (rj fun K=>K1 (zj (cs := #[.bool false,.slice none 0 0,.slice none 0 0]) (by kernel_rfl) (K1 (zI rfl IsNum.zero (Cell3.of hB1 rfl) fun _ w9 hU hN4 => ?_))));replace E0:=E0.upd hU hgb1;obtain ⟨cs4,hB4,hl4,hN4⟩:=hN4;refine ag (rm [2,3] K ?_);refine zE (zh (zY (zQ ?_)));exact ⟨rfl,_,zu rfl rfl rfl rfl zAB hB4 hl4,E0,_,by rw [he];rfl,by rw [he];exact hN4⟩
     · have he:zr l=(0,3):=by rw [zAv,hA,if_neg (by decide),hBf,if_neg (by decide),if_pos (.inr k2)]
       refine rI fun K=>K1 (zAe zBF rfl (K9 false rfl (decide_eq_false (by omega)) (mv (K7 (K2 (zAe zBF rfl (K2 (zH (v := .bool true) rfl rfl (congrArg (fun z=>some (Value.bool z)) (decide_eq_true (by omega))) (pc0 rfl (ag (rs [2,5,6,7,8,53] K ?_)))))))))));refine wct rfl (rj fun K=>K1 (zj (cs := #[.bool false,.slice none 0 0,.slice none 0 0]) (by kernel_rfl) (K1 (zI rfl IsNum.zero (Cell3.of hB1 rfl) fun _ w9 hU hN4 => ?_))));replace E0:=E0.upd hU hgb1;obtain ⟨cs4,hB4,hl4,hN4⟩:=hN4;refine ag (rm [2,3] K ?_);refine zE (zh (zY (zQ ?_)));exact ⟨rfl,_,zu rfl rfl rfl rfl zAB hB4 hl4,E0,_,by rw [he];rfl,by rw [he];exact hN4⟩
     · have hlen7:¬ (1000<(cutAt 47 (zS l)).1.length∨1000<(cutAt 47 (zS l)).2.1.length):=by omega
       refine rI fun K=>K1 (zAe zBF rfl (K9 false rfl (decide_eq_false (by omega)) (mv (K7 (K2 (zAe zBF rfl (K2 (zH (v := .bool false) rfl rfl (congrArg (fun z=>some (Value.bool z)) (decide_eq_false (by omega))) (pc0 rfl (ag (rs [2,5,6,7,8,53] K ?_)))))))))));refine wcf rfl (rj fun K=>mv ?_)
       try rw [h2]
       refine K1 (zAF rfl (ag (rm [2,5,6,7,63] K ?_)));refine wcf rfl (zz (zT (zN (rJ fun K=>K1 (j1 E0 hB1.ext hb154 (zHS (by omega) (zCR hp)) fun v72 w2 E0 hB1 N72=>mv (K1 (j2 E0 hB1.ext N72.ext hb154 (zHS (by omega) (zCR hq)) fun v74 w2 E0 hB1 N72 N74=>ag (ag (rm [2,5,9,10] K ?_)))))))));refine zA (rJ fun K=>mv (K1 (j3 E0 hB1.ext N72.ext N74.ext hb155 (zIk N72 N74 (zFB (by omega) (zCR hp)) (zFB (by omega) (zCR hq))) fun v77 w2 E0 hB1 N72 N74 N77=>K1 (j3 E0 hB1.ext N72.ext N74.ext hb156 (zGx N77) fun vi w2 E0 hB1 N72 N74 hr => ?_))));subst hr;refine K1 (zAF rfl (rm [2,5,9,10,79] K ?_));refine K0 rfl ?_ ?_<;>intro hc
       · have hg:Nat.gcd (natS (cutAt 47 (zS l)).1) (natS (cutAt 47 (zS l)).2.1)≠1:=by simpa using hc
         clear hc;have he:zr l=(0,6):=by rw [zAv,hA,if_neg (by decide),hBf,if_neg (by decide),if_neg hlen7,h2,if_neg (by decide),if_pos hg]
         refine rj fun K=>K1 (zj (cs := #[.bool false,.slice none 0 0,.slice none 0 0]) (by kernel_rfl) (K1 (zI rfl IsNum.zero (Cell3.of hB1 rfl) fun _ w9 hU hN4 => ?_)));replace E0:=E0.upd hU hgb1;obtain ⟨cs4,hB4,hl4,hN4⟩:=hN4;refine ag (rm [2,3] K ?_);refine zE (zY (zQ ?_));exact ⟨rfl,_,zu rfl rfl rfl rfl zAB hB4 hl4,E0,_,by rw [he];rfl,by rw [he];exact hN4⟩
       · have hg:Nat.gcd (natS (cutAt 47 (zS l)).1) (natS (cutAt 47 (zS l)).2.1)=1:=by simpa using hc
         clear hc;have he:zr l=(qOf (below l) (natS (cutAt 47 (zS l)).1) (natS (cutAt 47 (zS l)).2.1),0):=by rw [zAv,hA,if_neg (by decide),hBf,if_neg (by decide),if_neg hlen7,h2,if_neg (by decide),if_neg (fun h=>h hg)]
         refine sk (rJ fun K=>mv (mv ?_));have M:=numOf_ratio (s:=below l) N72 N74 hn0 (zIB hq h48).1 ((zIB hq h48).2 h49) hg;obtain ⟨p1,ds1,k1,rfl,-⟩:=N72;obtain ⟨p2,ds2,k2,rfl,-⟩:=N74;refine K1 (zj (cs := #[.bool (below l),.slice p1 ds1.length k1,.slice p2 ds2.length k2]) (by kernel_rfl) (K1 (zI rfl M (Cell3.of hB1 rfl) fun _ w9 hU hN4 => ?_)));replace E0:=E0.upd hU hgb1;obtain ⟨cs4,hB4,hl4,hN4⟩:=hN4;refine ag (rm [2,3] K ?_);refine zE (zQ ?_);exact ⟨rfl,_,zu rfl rfl rfl rfl zAB hB4 hl4,E0,_,by rw [he];rfl,by rw [he];exact hN4⟩
 · have hA:(!zBC (cutAt 47 (zS l)).1 || ((cutAt 47 (zS l)).1==[48]&&(below l || (cutAt 47 (zS l)).2.2)))=true:=by rw [hp,hz,hbl];simp
   have he:zr l=(0,6):=by rw [zAv,hA,if_pos rfl]
   refine rI fun K=>K1 (j1 E0 hB1.ext hb153 (zCr (by omega)) fun vi w2 E0 hB1 hr => ?_);subst hr;rw [hp];refine K1 (zAF rfl (mv (K7 (K2 (zAs rfl rfl ?_)))));rw [hz];refine K7 (K7 ?_);rw [hbl];refine K7 (K3 (K2 (zAd rfl (K2 (zAd rfl (pc0 rfl (ag (rs [2,5,6,7,8,22] K ?_))))))));refine wct rfl (rj fun K=>K1 (zj (cs := #[.bool false,.slice none 0 0,.slice none 0 0]) (by kernel_rfl) (K1 (zI rfl IsNum.zero (Cell3.of hB1 rfl) fun _ w9 hU hN4 => ?_))));replace E0:=E0.upd hU hgb1;obtain ⟨cs4,hB4,hl4,hN4⟩:=hN4;refine ag (rm [2,3] K ?_);refine zE (zh (zY (zQ ?_)));exact ⟨rfl,_,zu rfl rfl rfl rfl zAB hB4 hl4,E0,_,by rw [he];rfl,by rw [he];exact hN4⟩
 · have hA:(!zBC (cutAt 47 (zS l)).1 || ((cutAt 47 (zS l)).1==[48]&&(below l || (cutAt 47 (zS l)).2.2)))=true:=by rw [hp,hz,hbl,ht];simp
   have he:zr l=(0,6):=by rw [zAv,hA,if_pos rfl]
   refine rI fun K=>K1 (j1 E0 hB1.ext hb153 (zCr (by omega)) fun vi w2 E0 hB1 hr => ?_);subst hr;rw [hp];refine K1 (zAF rfl (mv (K7 (K2 (zAs rfl rfl ?_)))));rw [hz];refine K7 (K7 ?_);rw [hbl];refine K7 (K7 ?_);rw [ht];refine K2 (zAd rfl (K2 (zAd rfl (pc0 rfl (ag (rs [2,5,6,7,8,22] K ?_))))));refine wct rfl (rj fun K=>K1 (zj (cs := #[.bool false,.slice none 0 0,.slice none 0 0]) (by kernel_rfl) (K1 (zI rfl IsNum.zero (Cell3.of hB1 rfl) fun _ w9 hU hN4 => ?_))));replace E0:=E0.upd hU hgb1;obtain ⟨cs4,hB4,hl4,hN4⟩:=hN4;refine ag (rm [2,3] K ?_);refine zE (zh (zY (zQ ?_)));exact ⟨rfl,_,zu rfl rfl rfl rfl zAB hB4 hl4,E0,_,by rw [he];rfl,by rw [he];exact hN4⟩
 · have hA:(!zBC (cutAt 47 (zS l)).1 || ((cutAt 47 (zS l)).1==[48]&&(below l || (cutAt 47 (zS l)).2.2)))=false:=by rw [hp,hz,hbl,ht];simp
   refine rI fun K=>K1 (j1 E0 hB1.ext hb153 (zCr (by omega)) fun vi w2 E0 hB1 hr => ?_);subst hr;rw [hp];refine K1 (zAF rfl (mv (K7 (K2 (zAs rfl rfl ?_)))));rw [hz];refine K7 (K7 ?_);rw [hbl];refine K7 (K7 ?_);rw [ht];refine K2 (zAd rfl (K2 (zAd rfl (pc0 rfl (ag (rs [2,5,6,7,8,22] K ?_))))));refine wcf rfl (zA ?_);have h2:=ht
   · have hBf:((cutAt 47 (zS l)).2.2&&(!zBC (cutAt 47 (zS l)).2.1 || (cutAt 47 (zS l)).2.1==[48] || (cutAt 47 (zS l)).2.1==[49]))=false:=by rw [h2];rfl
     refine K6 fun K=>mv ?_
     try rw [h2]
     refine mv (K3 (K3 (K3 (K3 (K3 (K3 (K3 (K3 (K3 (K3 (K3 (pc0 rfl (ag (rl K ?_))))))))))))));refine zN (K5 [2,5,6,7,8,37] ?_);refine wcf rfl (zA ?_);rcases (show 1000<(cutAt 47 (zS l)).1.length∨(¬ 1000<(cutAt 47 (zS l)).1.length∧1000<(cutAt 47 (zS l)).2.1.length)∨(¬ 1000<(cutAt 47 (zS l)).1.length∧¬ 1000<(cutAt 47 (zS l)).2.1.length) from by omega) with k1 | ⟨k1,k2⟩ | ⟨k1,k2⟩
     · have he:zr l=(0,3):=by rw [zAv,hA,if_neg (by decide),hBf,if_neg (by decide),if_pos (.inl k1)]
       refine rI fun K=>K1 (zAe zBF rfl (K9 true rfl (decide_eq_true (by omega)) (mv (K3 (K3 (K3 (pc0 rfl (ag (rs [2,5,6,7,8,53] K ?_)))))))));refine wct rfl (rj fun K=>K1 (zj (cs := #[.bool false,.slice none 0 0,.slice none 0 0]) (by kernel_rfl) (K1 (zI rfl IsNum.zero (Cell3.of hB1 rfl) fun _ w9 hU hN4 => ?_))));replace E0:=E0.upd hU hgb1;obtain ⟨cs4,hB4,hl4,hN4⟩:=hN4;refine ag (rm [2,3] K ?_);refine zE (zh (zY (zQ ?_)));exact ⟨rfl,_,zu rfl rfl rfl rfl zAB hB4 hl4,E0,_,by rw [he];rfl,by rw [he];exact hN4⟩
     · have he:zr l=(0,3):=by rw [zAv,hA,if_neg (by decide),hBf,if_neg (by decide),if_pos (.inr k2)]
       refine rI fun K=>K1 (zAe zBF rfl (K9 false rfl (decide_eq_false (by omega)) (mv (K7 (K2 (zAe zBF rfl (K2 (zH (v := .bool true) rfl rfl (congrArg (fun z=>some (Value.bool z)) (decide_eq_true (by omega))) (pc0 rfl (ag (rs [2,5,6,7,8,53] K ?_)))))))))));refine wct rfl (rj fun K=>K1 (zj (cs := #[.bool false,.slice none 0 0,.slice none 0 0]) (by kernel_rfl) (K1 (zI rfl IsNum.zero (Cell3.of hB1 rfl) fun _ w9 hU hN4 => ?_))));replace E0:=E0.upd hU hgb1;obtain ⟨cs4,hB4,hl4,hN4⟩:=hN4;refine ag (rm [2,3] K ?_);refine zE (zh (zY (zQ ?_)));exact ⟨rfl,_,zu rfl rfl rfl rfl zAB hB4 hl4,E0,_,by rw [he];rfl,by rw [he];exact hN4⟩
     · have hlen7:¬ (1000<(cutAt 47 (zS l)).1.length∨1000<(cutAt 47 (zS l)).2.1.length):=by omega
       have he:zr l=(qOf (below l) (natS (cutAt 47 (zS l)).1) 1,0):=by rw [zAv,hA,if_neg (by decide),hBf,if_neg (by decide),if_neg hlen7,h2];rfl
       refine rI fun K=>K1 (zAe zBF rfl (K9 false rfl (decide_eq_false (by omega)) (mv (K7 (K2 (zAe zBF rfl (K2 (zH (v := .bool false) rfl rfl (congrArg (fun z=>some (Value.bool z)) (decide_eq_false (by omega))) (pc0 rfl (ag (rs [2,5,6,7,8,53] K ?_)))))))))));refine wcf rfl (rj fun K=>mv ?_)
       try rw [h2]
       refine K1 (zAF rfl (ag (rm [2,5,6,7,63] K ?_)));refine wct rfl (rJ fun K=>mv (K1 (j1 E0 hB1.ext hb154 (zHS (by omega) (zCR hp)) fun v68 w2 E0 hB1 N68=>K1 (j2 E0 hB1.ext N68.ext hb106 (zHA _) fun v69 w2 E0 hB1 N68 N69=>K1 (j1 E0 hB1.ext hb102 (zBT N68 N69 (by decide) (zFB (by omega) (zCR hp)) zJd) fun v70 w2 E0 hB1 N70=>K1 (zI rfl N70 (Cell3.of hB1 rfl) fun _ w9 hU hN4 => ?_))))));replace E0:=E0.upd hU hgb1;obtain ⟨cs4,hB4,hl4,hN4⟩:=hN4;refine ag (rm [2,3] K ?_);refine zE (zh (zY (zQ ?_)));exact ⟨rfl,_,zu rfl rfl rfl rfl zAB hB4 hl4,E0,_,by rw [he,hbl];rfl,by rw [he,hbl];exact hN4⟩
end Go.Proofs.YtjiendlfobjanaaGreatDoor
namespace Go.Proofs.YtjiendlfobjanaaGreatDoor
open Go Go.RowKit Go.Proofs Tryz
variable {B:Band} {T ty:TypeId} {af:Array Edge} {b b2 c i k n o:Nat} {cs:List Value} {g:Option (Nat×Bool)} {l:List Rat} {pos:String} {q:Rat} {r:Option Nat} {v:Value} {w w' w0:World} {x y:Operand} {σ:Operand→Value}
structure BandT where
 lo:List UInt8
 hi:List UInt8
 least:List UInt8
 most:List UInt8
def zJZ (a b c d:Rat):Option Bool:=if a<0 then some true else (rcmp a b).bind fun z=>if 0<z then some true else if c<0 then some true else (rcmp c d).map fun y=>decide (0<y)
def zFM:List BandT→List Band→Option (List Band×Int)
 | [],acc=>some (acc,0)
 | t :: l,acc =>
  if (zr t.lo).2≠0 then some ([],(zr t.lo).2) else if (zr t.hi).2≠0 then some ([],(zr t.hi).2) else
  if (zr t.least).2≠0 then some ([],(zr t.least).2) else if (zr t.most).2≠0 then some ([],(zr t.most).2) else
  (zJZ (zr t.lo).1 (zr t.hi).1 (zr t.least).1 (zr t.most).1).bind fun bad=>if bad=true then some ([],7) else
   zFM l (acc++[⟨(zr t.lo).1,(zr t.hi).1,(zr t.least).1,(zr t.most).1⟩])
def zEZ (m:List BandT):Option (List Band×Int):=if m.length=0∨6<m.length then some ([],7) else zFM m []
def chunk (n:Nat) (cs:List Value) (i:Nat):List Value:=(cs.drop (n*i)).take n
theorem zHd (h:n*i+n≤cs.length):(chunk n cs i).length=n:=by unfold chunk;simp;omega
theorem zEh {m:Nat} {vs:List Value} (hv:vs.length=n) (hm:n*m+n≤cs.length):chunk n (zAy cs (n*m) vs) i=if i=m then vs else chunk n cs i:=by
 rw [zEu _ _ _ (by omega)];unfold chunk;have h1:(cs.take (n*m)).length=n*m:=by simp;omega
 by_cases e:i=m
 · subst e;rw [if_pos rfl,List.drop_append_of_le_length (by omega),List.drop_of_length_le (by omega),List.nil_append,List.take_append_of_le_length (by omega),List.take_of_length_le (by omega)]
 · rw [if_neg e];rcases Nat.lt_or_gt_of_ne e with h | h
   · have h2:n*i+n≤n*m:=by have:=Nat.mul_le_mul_left n (show i+1≤m from h);rw [Nat.mul_add] at this;omega
     rw [List.drop_append_of_le_length (by omega),List.take_append_of_le_length (by simp;omega),List.drop_take,List.take_take,Nat.min_eq_left (by omega)]
   · have h2:n*m+n≤n*i:=by have:=Nat.mul_le_mul_left n (show m+1≤i from h);rw [Nat.mul_add] at this;omega
     obtain ⟨k,hk⟩:∃ k,n*i=n*m+n+k:=⟨n*i-(n*m+n),by omega⟩;rw [hk,show n*m+n+k=n*m+(n+k) by omega,List.drop_append,h1,List.drop_of_length_le (l:=cs.take (n*m)) (by omega),List.nil_append,show n*m+(n+k)-n*m=n+k by omega,List.drop_append,hv,List.drop_of_length_le (l:=vs) (by omega),List.nil_append,show n+k-n=k by omega,List.drop_drop,show n*m+n+k=n*m+(n+k) by omega]
theorem chunk_app {a b:List Value} (h:n*i+n≤a.length):chunk n (a++b) i=chunk n a i:=by
 unfold chunk;rw [List.drop_append_of_le_length (by omega),List.take_append_of_le_length (by simp;omega)]
theorem chunk_take {m:Nat} {a:List Value} (h:n*i+n≤m) (hm:m≤a.length):chunk n (a.take m) i=chunk n a i:=by
 unfold chunk;rw [List.drop_take,List.take_take,Nat.min_eq_left (by omega)]
def zJQ (w:World) (cs:List Value) (o:Nat) (A:List Band):Prop:=∀ i B,A[i]? = some B→BandC w (chunk 12 (cs.drop o) i) B
def AccBd (sz:Nat) (w:World) (v:Value) (A:List Band):Prop :=
 ∃ p c,v = .slice p A.length c∧A.length≤c∧((A=[]∧p=none∧c=0)∨∃ b cs,p=some ⟨b,0,none⟩∧sz≤b∧Blk w b 144 cs∧cs.length=12*c∧zJQ w cs 0 A)
theorem AccBd.nil {sz:Nat}:AccBd sz w (.slice none 0 0) []:=⟨none,0,rfl,Nat.le_refl _,.inl ⟨rfl,rfl,rfl⟩⟩
theorem AccBd.ext {sz:Nat} {A:List Band} (h:AccBd sz w v A) (hx:Ext w w'):AccBd sz w' v A:=by
 obtain ⟨p,c,h1,h2,h3⟩:=h;refine ⟨p,c,h1,h2,?_⟩;rcases h3 with h3 | ⟨b,cs,e1,e2,e3,e4,e5⟩
 · exact .inl h3
 · exact .inr ⟨b,cs,e1,e2,e3.ext hx,e4,fun i B hB=>(e5 i B hB).ext hx⟩
theorem AccBd.upd {sz:Nat} {A:List Band} (h:AccBd sz w v A) (hu:Upd b w w') (hb:Blk w b T cs) (h2:T≠164) (h3:T≠144):AccBd sz w' v A:=by
 obtain ⟨p,c,g1,g2,g3⟩:=h;refine ⟨p,c,g1,g2,?_⟩;rcases g3 with g3 | ⟨b',cs',e1,e2,e3,e4,e5⟩
 · exact .inl g3
 · exact .inr ⟨b',cs',e1,e2,e3.upd hu (e3.neT hb (Ne.symm h3)),e4,fun i B hB=>(e5 i B hB).updT hu hb h2⟩
def zCl (w:World) (v:Value) (A:List Band):Prop:=∃ p c,v = .slice p A.length c∧(A=[]∨∃ b cs,p=some ⟨b,0,none⟩∧Blk w b 144 cs∧12*A.length≤cs.length∧zJQ w cs 0 A)
theorem zCl.ext {A:List Band} (h:zCl w v A) (hx:Ext w w'):zCl w' v A:=by
 obtain ⟨p,c,h1,h2⟩:=h;refine ⟨p,c,h1,?_⟩;rcases h2 with h2 | ⟨b,cs,e1,e2,e3,e4⟩
 · exact .inl h2
 · exact .inr ⟨b,cs,e1,e2.ext hx,e3,fun i B hB=>(e4 i B hB).ext hx⟩
theorem AccBd.bands {sz:Nat} {A:List Band} (h:AccBd sz w v A):zCl w v A:=by
 obtain ⟨p,c,h1,h2,h3⟩:=h;refine ⟨p,c,h1,?_⟩;rcases h3 with ⟨e1,e2,e3⟩ | ⟨b,cs,e1,e2,e3,e4,e5⟩
 · exact .inl e1
 · exact .inr ⟨b,cs,e1,e3,by omega,e5⟩
theorem zGT:prog.underlying 139=some (.slice 144):=by kernel_rfl
theorem zEP:zAZ prog 139 144 12:=by unfold zAZ;exact ⟨by kernel_rfl,by kernel_rfl⟩
def bandZ:List Value:=[.bool false,.slice none 0 0,.slice none 0 0,.bool false,.slice none 0 0,.slice none 0 0,.bool false,.slice none 0 0,.slice none 0 0,.bool false,.slice none 0 0,.slice none 0 0]
theorem zND:(prog.info? 144).map (fun i=>(i.zero,i.size,i.bytes))=some (some (.agg bandZ.toArray),12,224):=by kernel_rfl
theorem info144':(prog.info? 144).map (fun i=>(i.zero,i.size))=some (some (.agg bandZ.toArray),12):=by kernel_rfl
def AppBd (sz:Nat) (w w':World):Prop:=Ext w w'∨∃ b cs,sz≤b∧Blk w b 144 cs∧Upd b w w'
theorem AppBd.ext {sz:Nat} (h:AppBd sz w w') (hs:w0.heap.size≤sz) (hE:Ext w0 w):Ext w0 w':=by
 rcases h with h | ⟨b,cs,h1,h2,h3⟩
 · exact hE.trans h
 · exact hE.upd h3 (by omega)
theorem runs_append_band {K:Value→World→Prop} {d:Option Tmp} {sz:Nat} {A:List Band} {q:Band} {u:List Value}
 (hx:AccBd sz w (σ x) A) (hy:σ y = .slice (some ⟨b2,0,none⟩) 1 1) (hB2:Blk w b2 144 u) (hul:u.length=12) (hq:BandC w u q) (hA:A.length<8192) (hsz:sz≤w.heap.size)
 (hk:∀ v w',AppBd sz w w'→AccBd sz w' v (A++[q])→K v w') :
 Runs prog r ⟨d,.call { callee := .builtin .append,args := #[x,y],argTypes := #[139,139] },ty,pos,af,g⟩ σ w K:=by
 obtain ⟨p,c,h1,h2,h3⟩:=hx;have hok:u.all zBl=true:=hq.ok hul;have getc:∀ (cs':List Value) (w':World),(∀ i B,A[i]? = some B→BandC w' (chunk 12 cs' i) B)→chunk 12 cs' A.length=u→BandC w' u q→∀ i B,(A++[q])[i]? = some B→BandC w' (chunk 12 (cs'.drop 0) i) B:=fun cs' w' g1 g2 g3 i B hB=>by
  rw [List.drop_zero];by_cases hi:i<A.length
  · rw [List.getElem?_append_left hi] at hB;exact g1 i B hB
  · rw [List.getElem?_append_right (by omega)] at hB;have:i=A.length:=by
     have:=(List.getElem?_eq_some_iff.1 hB).1;simp at this;omega
    subst this;simp at hB;subst hB;rw [g2];exact g3
 by_cases hc:A.length+1≤c
 · rcases h3 with ⟨e1,e2,e3⟩ | ⟨b,cs,e1,e2,e3,e4,e5⟩
   · omega
   · subst e1;refine zBM (n:=12) zGT zGT zND h1 hy e3 (Cells.blk hB2) (by omega) hc (by omega) hok fun w' hU hN=>hk _ w' (.inr ⟨b,cs,e2,e3,hU⟩) ?_;rw [Nat.zero_add,Nat.mul_comm A.length 12] at hN;refine ⟨_,c,by simp,by simpa using hc,.inr ⟨b,_,rfl,e2,hN,by rw [zAh];exact e4,getc _ _ (fun i B hB => ?_) ?_ (hq.updT hU e3 (by decide))⟩⟩
     · have hi:i<A.length:=(List.getElem?_eq_some_iff.1 hB).1;rw [zEh hul (by omega),if_neg (by omega)];have:=e5 i B hB;rw [List.drop_zero] at this;exact this.updT hU e3 (by decide)
     · rw [zEh hul (by omega),if_pos rfl]
 · have hnew:=zAa (A.length+1) c;have hold:∃ old,Cells w p 144 old∧old.length=A.length*12∧∀ i B,A[i]? = some B→BandC w (chunk 12 old i) B:=by
    rcases h3 with ⟨e1,e2,e3⟩ | ⟨b,cs,e1,e2,e3,e4,e5⟩
    · subst e1;exact ⟨[],.inl rfl,rfl,fun i B hB=>by simp at hB⟩
    · refine ⟨cs.take (12*A.length),.inr ⟨b,0,cs,e1,e3,by simp [Nat.mul_comm]⟩,by simp;omega,fun i B hB => ?_⟩;have hi:i<A.length:=(List.getElem?_eq_some_iff.1 hB).1;have:=e5 i B hB;rw [List.drop_zero] at this;rw [chunk_take (by omega) (by omega)];exact this
   obtain ⟨old,o1,o2,o3⟩:=hold;refine zAJ zGT zGT zND rfl (by decide) h1 hy o1 o2 (Cells.blk hB2) (by omega) (by omega) (by omega) fun w' rest c' g1 hE hB g2 _=>hk _ w' (.inl hE) ?_;have hrl:rest.length=(c'-(A.length+1))*12:=by rw [g2];simp [Builtin.zeroCells,Value.cells,bandZ]
   refine ⟨_,c',by simp,by simpa using g1,.inr ⟨w.heap.size,_,rfl,hsz,hB,by simp [o2,hul,hrl];omega,getc _ _ (fun i B hB' => ?_) ?_ (hq.ext hE)⟩⟩
   · have hi:i<A.length:=(List.getElem?_eq_some_iff.1 hB').1;rw [List.append_assoc,chunk_app (by omega)];exact (o3 i B hB').ext hE
   · unfold chunk;rw [List.append_assoc,List.drop_append,List.drop_of_length_le (by omega),List.nil_append,o2,show 12*A.length-A.length*12=0 by omega,List.drop_zero,List.take_append_of_le_length (by omega),List.take_of_length_le (by omega)]
theorem zGF {K:Value→World→Prop} {d:Option Tmp} {A:List Band} 
 (hx:σ x = .pointer (some ⟨b,12*i,none⟩)) (hB:Blk w b 144 cs) (hl:12*A.length≤cs.length) (hA:zJQ w cs 0 A) (hi:A[i]? = some B) (hk:∀ v,zIa w v B→K v w):Runs prog r ⟨d,.load 144 x,ty,pos,af,g⟩ σ w K:=by
 have hlt:i<A.length:=(List.getElem?_eq_some_iff.1 hi).1;refine zW zJX hx hB (by omega) (hk _ ⟨(cs.drop (12*i)).take 12,rfl,by simp;omega,?_⟩);have:=hA i B hi;rw [List.drop_zero] at this;exact this
def XBlk (w:World) (b:Nat) (l:List Rat):Prop:=∃ cs,Blk w b 258 cs∧cs.length=12∧l.length=4∧∀ i,i<4→IsNum w (.agg (chunk 3 cs i).toArray) (l.getD i 0)
theorem XBlk.ext (h:XBlk w b l) (hx:Ext w w'):XBlk w' b l:=by
 obtain ⟨cs,h1,h2,h3,h4⟩:=h;exact ⟨cs,h1.ext hx,h2,h3,fun i hi=>(h4 i hi).ext hx⟩
theorem XBlk.updT (h:XBlk w b l) (hu:Upd c w w') (hb:Blk w c T cs) (h1:T≠258) (h2:T≠164):XBlk w' b l:=by
 obtain ⟨ds,e1,e2,e3,e4⟩:=h;exact ⟨ds,e1.upd hu (e1.neT hb (Ne.symm h1)),e2,e3,fun i hi=>(e4 i hi).updT hu hb h2⟩
theorem zBc:ArrOf prog 258 4 37 3:=by unfold ArrOf;exact ⟨by kernel_rfl,by kernel_rfl⟩
theorem zero258:(prog.info? 258).bind (·.zero)=some (.agg bandZ.toArray):=by kernel_rfl
theorem XBlk.zero (h:Blk w b 258 bandZ):XBlk w b [0,0,0,0]:=⟨_,h,rfl,rfl,fun i hi=>by
 match i,hi with
 | 0,_=>exact IsNum.zero
 | 1,_=>exact IsNum.zero
 | 2,_=>exact IsNum.zero
 | 3,_=>exact IsNum.zero⟩
section laws
variable {K:Value→World→Prop} {d:Option Tmp}
theorem runs_xstore (hx:σ x = .pointer (some ⟨b,o,none⟩)) (ho:o=3*k) (hy:IsNum w (σ y) q) (hB:XBlk w b l) (hk:k<4)
 (hc:∀ v w',Upd b w w'→XBlk w' b (l.set k q)→K v w'):Runs prog r ⟨d,.store 37 x y,ty,pos,af,g⟩ σ w K:=by
 subst ho;obtain ⟨cs,hB,hl,hl2,hN⟩:=hB;have hy0:=hy;obtain ⟨n,dd,he,hn,hd⟩:=hy;obtain ⟨p1,ds1,c1,rfl,-⟩:=hn;obtain ⟨p2,ds2,c2,rfl,-⟩:=hd;refine zZ zGN hx hB (by rw [he];rfl) (by omega) (by decide) (by rw [he];rfl) fun w' hU hS=>hc _ w' hU ?_;rw [he] at hS hy0;refine ⟨_,hS,by rw [zAh];exact hl,by rw [List.length_set];exact hl2,fun i hi => ?_⟩;show IsNum w' (.agg (chunk 3 (zAy cs (3*k) [_,_,_]) i).toArray) _;rw [zEh (n:=3) rfl (by omega)];by_cases hik:i=k
 · subst hik;rw [if_pos rfl,show (l.set i q).getD i 0=q from by simp [hl2,hi]];exact hy0.upd hU hB (by decide)
 · rw [if_neg hik,show (l.set k q).getD i 0=l.getD i 0 from by simp [List.getElem?_set_ne (Ne.symm hik)]];exact (hN i hi).upd hU hB (by decide)
theorem zAQ (hx:σ x = .pointer (some ⟨b,o,none⟩)) (ho:o=3*k) (hB:XBlk w b l) (hk:k<4) (hc:∀ v,IsNum w v (l.getD k 0)→K v w):Runs prog r ⟨d,.load 37 x,ty,pos,af,g⟩ σ w K:=by
 subst ho;obtain ⟨cs,hB,hl,hl2,hN⟩:=hB;exact zW zAB hx hB (by omega) (hc _ (hN k hk))
end laws
def zEY (t:BandT):List Value:=[S t.lo,S t.hi,S t.least,S t.most]
def zCp (w:World) (v:Value) (m:List BandT):Prop:=∃ p c,v = .slice p m.length c∧(m=[]∨∃ b o cs,p=some ⟨b,o,none⟩∧Blk w b 54 cs∧o+4*m.length≤cs.length∧∀ i t,m[i]? = some t→(cs.drop (o+4*i)).take 4=zEY t)
theorem zCp.ext {m:List BandT} (h:zCp w v m) (hx:Ext w w'):zCp w' v m:=by
 obtain ⟨p,c,h1,h2⟩:=h;refine ⟨p,c,h1,?_⟩;rcases h2 with h2 | ⟨b,o,cs,e1,e2,e3,e4⟩
 · exact .inl h2
 · exact .inr ⟨b,o,cs,e1,e2.ext hx,e3,e4⟩
theorem zFf:zAZ prog 41 54 4:=by unfold zAZ;exact ⟨by kernel_rfl,by kernel_rfl⟩
theorem zMm:Aggr prog 54 4:=by unfold Aggr;exact ⟨by kernel_rfl,by kernel_rfl⟩
theorem zNu:(prog.info? 54).map (·.size)=some 4:=by kernel_rfl
theorem zNy:(prog.info? 54).bind (·.zero)=some (.agg #[S [],S [],S [],S []]):=by kernel_rfl
theorem fo54_0:zt prog 54 0 0:=by unfold zt;kernel_rfl
theorem fo54_1:zt prog 54 1 1:=by unfold zt;kernel_rfl
theorem fo54_2:zt prog 54 2 2:=by unfold zt;kernel_rfl
theorem fo54_3:zt prog 54 3 3:=by unfold zt;kernel_rfl
theorem zCm:Plain prog 52:=by unfold Plain;exact ⟨by kernel_rfl,by kernel_rfl⟩
def txt (t:BandT):List (List UInt8):=[t.lo,t.hi,t.least,t.most]
theorem txt_at (t:BandT) (h:k<4):(#[S t.lo,S t.hi,S t.least,S t.most]:Array Value)[k]? = some (S ((txt t).getD k [])):=by
 match k,h with
 | 0,_=>rfl
 | 1,_=>rfl
 | 2,_=>rfl
 | 3,_=>rfl
theorem bandsL_err {t:BandT} {l:List BandT} {A:List Band} {R:List Band×Int} (hk:k<4) (h0:∀ j,j<k→(zr ((txt t).getD j [])).2=0) (h1:(zr ((txt t).getD k [])).2≠0) (h:zFM (t :: l) A=some R):R=([],(zr ((txt t).getD k [])).2):=by
 unfold zFM at h
 match k,hk with
 | 0,_=>rw [if_pos (show (zr t.lo).2≠0 from h1)] at h;exact (Option.some.inj h).symm
 | 1,_ =>
  have a0:(zr t.lo).2=0:=h0 0 (by omega);rw [if_neg (fun e=>e a0),if_pos (show (zr t.hi).2≠0 from h1)] at h;exact (Option.some.inj h).symm
 | 2,_ =>
  have a0:(zr t.lo).2=0:=h0 0 (by omega);have a1:(zr t.hi).2=0:=h0 1 (by omega);rw [if_neg (fun e=>e a0),if_neg (fun e=>e a1),if_pos (show (zr t.least).2≠0 from h1)] at h;exact (Option.some.inj h).symm
 | 3,_ =>
  have a0:(zr t.lo).2=0:=h0 0 (by omega);have a1:(zr t.hi).2=0:=h0 1 (by omega);have a2:(zr t.least).2=0:=h0 2 (by omega);rw [if_neg (fun e=>e a0),if_neg (fun e=>e a1),if_neg (fun e=>e a2),if_pos (show (zr t.most).2≠0 from h1)] at h;exact (Option.some.inj h).symm
theorem bandsL_go {t:BandT} {l:List BandT} {A:List Band} {R:List Band×Int} (h0:∀ j,j<4→(zr ((txt t).getD j [])).2=0) (h:zFM (t :: l) A=some R) :
 ∃ bad,zJZ (zr t.lo).1 (zr t.hi).1 (zr t.least).1 (zr t.most).1=some bad∧(if bad=true then some ([],7) else zFM l (A++[⟨(zr t.lo).1,(zr t.hi).1,(zr t.least).1,(zr t.most).1⟩]))=some R:=by
 have a0:(zr t.lo).2=0:=h0 0 (by omega);have a1:(zr t.hi).2=0:=h0 1 (by omega);have a2:(zr t.least).2=0:=h0 2 (by omega);have a3:(zr t.most).2=0:=h0 3 (by omega);unfold zFM at h;rw [if_neg (fun e=>e a0),if_neg (fun e=>e a1),if_neg (fun e=>e a2),if_neg (fun e=>e a3)] at h;exact bind_some h
theorem badBand_cases {a b c d:Rat} {bad:Bool} (h:zJZ a b c d=some bad):(a<0∧bad=true)∨(∃ z,¬ a<0∧rcmp a b=some z∧0<z∧bad=true)∨(∃ z,¬ a<0∧rcmp a b=some z∧¬ 0<z∧c<0∧bad=true) ∨
 (∃ z y,¬ a<0∧rcmp a b=some z∧¬ 0<z∧¬ c<0∧rcmp c d=some y∧0<y∧bad=true)∨(∃ z y,¬ a<0∧rcmp a b=some z∧¬ 0<z∧¬ c<0∧rcmp c d=some y∧¬ 0<y∧bad=false):=by
 unfold zJZ at h;split at h
 · next h0=>cases h;exact .inl ⟨h0,rfl⟩
 · next h0 =>
   obtain ⟨z,hz,h⟩:=bind_some h;split at h
   · next h1=>cases h;exact .inr (.inl ⟨z,h0,hz,h1,rfl⟩)
   · next h1 =>
     split at h
     · next h2=>cases h;exact .inr (.inr (.inl ⟨z,h0,hz,h1,h2,rfl⟩))
     · next h2 =>
       obtain ⟨y,hy,h⟩:=map_some h;by_cases h3:0<y
       · exact .inr (.inr (.inr (.inl ⟨z,y,h0,hz,h1,h2,hy,h3,by rw [← h];exact decide_eq_true h3⟩)))
       · exact .inr (.inr (.inr (.inr ⟨z,y,h0,hz,h1,h2,hy,h3,by rw [← h];exact decide_eq_false h3⟩)))
theorem arr259:ArrOf prog 259 4 52 1:=by unfold ArrOf;exact ⟨by kernel_rfl,by kernel_rfl⟩
end Go.Proofs.YtjiendlfobjanaaGreatDoor
namespace Go.Proofs.YtjiendlfobjanaaGreatDoor
open Go Go.RowKit Go.Proofs Tryz
set_option maxRecDepth 10000
set_option maxHeartbeats 2000000
attribute [local irreducible] Runs WPE CallK Ret
variable {v:Value} {w:World}
theorem zLW {m:List BandT} {R:List Band×Int} (hm:zCp w v m) (hlen:∀ (i:Nat) (t:BandT),m[i]? = some t→t.lo.length<1000000000∧t.hi.length<1000000000∧t.least.length<1000000000∧t.most.length<1000000000) (h:zEZ m=some R):Ret prog 87 #[v] w (fun r w'=>∃ u,r = .tuple #[u,.int .i64 R.2]∧AccBd w.heap.size w' u R.1):=by
 obtain ⟨mp,mc,rfl,hmk⟩:=hm;have E0:Ext w w:=Ext.refl w;refine J0 92 func87 rfl (rj fun K=>ag (ag (rm [0] K ?_)));refine zA (zA ?_);rcases (show m.length=0∨(m.length≠0∧6<m.length)∨(m.length≠0∧¬ 6<m.length) from by omega) with k1 | ⟨k1,k2⟩ | ⟨k1,k2⟩
 · unfold zEZ at h;rw [if_pos (.inl k1)] at h;obtain rfl:=Option.some.inj h;refine rI fun K=>K1 (zJ zFf rfl ?_);refine K9 true rfl (by rw [k1];rfl) ?_;refine mv (K3 (K3 (K3 (pc0 rfl (rs [0,19] K ?_)))));refine wct rfl (rj fun K=>ag (ag (rm [2,3] K ?_)));exact zE (zY (zQ ⟨rfl,_,zn rfl rfl rfl,E0,_,rfl,AccBd.nil⟩))
 · unfold zEZ at h;rw [if_pos (.inr k2)] at h;obtain rfl:=Option.some.inj h;refine rI fun K=>K1 (zJ zFf rfl (K9 false rfl (beq_eq_false_iff_ne.2 (by omega)) (mv (K7 (K2 (zJ zFf rfl (K2 (zH (v := .bool true) rfl rfl (congrArg (fun z=>some (Value.bool z)) (decide_eq_true (by omega))) (pc0 rfl (rs [0,19] K ?_))))))))));refine wct rfl (rj fun K=>ag (ag (rm [2,3] K ?_)));exact zE (zY (zQ ⟨rfl,_,zn rfl rfl rfl,E0,_,rfl,AccBd.nil⟩))
 · unfold zEZ at h;rw [if_neg (by omega)] at h;refine rI fun K=>K1 (zJ zFf rfl (K9 false rfl (beq_eq_false_iff_ne.2 (by omega)) (mv (K7 (K2 (zJ zFf rfl (K2 (zH (v := .bool false) rfl rfl (congrArg (fun z=>some (Value.bool z)) (decide_eq_false (by omega))) (pc0 rfl (rs [0,19] K ?_))))))))));refine wcf rfl (sk (rj fun K=>ag (rm [0,4] K ?_)));refine zA (rJ fun K=>K1 (zJ zFf rfl (mv (rm [4,20,21,22] K ?_))));refine zG (zo (X:=Nat) (fun i ρ w'=>∃ va A,Keep ρ [(4,va),(20,.slice mp m.length mc),(21,.int .i64 (m.length:Int)),(22,.int .i64 (i:Int))]∧i≤m.length∧Ext w w'∧AccBd w.heap.size w' va A∧A.length=i∧zFM (m.drop i) A=some R) (fun i=>m.length-i) 0 ⟨_,[],(kp rfl),Nat.zero_le _,E0,AccBd.nil,rfl,h⟩ ?_);clear E0 h;rintro i ρ1 w1 ⟨va,A,hk,hil,E0,hA,hAl,h⟩;refine wpe_k _ hk ?_;clear hk ρ1;refine zA ?_;rcases Nat.lt_or_ge i m.length with hi | hi
   · obtain ⟨t,ht⟩:∃ t,m[i]? = some t:=⟨m[i],List.getElem?_eq_getElem hi⟩;have hdr:m.drop i=t :: m.drop (i+1):=by rw [List.drop_eq_getElem_cons hi];congr 1;rw [List.getElem?_eq_getElem hi] at ht;exact Option.some.inj ht
     rw [hdr] at h;obtain ⟨mb,mo,mcs,hmp,hMB,hml,hmt⟩:=(hmk.resolve_left (fun e=>by subst e;simp at hi));replace hMB:=hMB.ext E0;have hmt:=hmt i t ht;have htl:=hlen i t ht;refine K6 fun K=>K8 rfl (rs [4,20,21,22,23] K ?_);refine zA (wct (congrArg Value.bool (decide_eq_true (by omega))) (sk (zA (zG (rj fun K=>K1 (zO zFf (congrArg (fun q=>Value.slice q m.length mc) hmp) rfl (by omega) (by omega) ?_))))));refine K1 (zW zMm rfl hMB (by rw [Int.toNat_natCast];omega) ?_);rw [Int.toNat_natCast,Nat.mul_comm i 4,hmt];refine K1 (zK zNy fun b6 w7 hb hE hB6 hs => ?_);have hg6:w.heap.size≤b6:=by rw [hb];exact E0.size
     replace E0:=E0.trans hE;replace hA:=hA.ext hE;clear hE hb hs hMB;refine K1 (zZ zNu rfl hB6 rfl (Nat.le_of_ble_eq_true rfl) (by decide) rfl fun w9 hU hN => ?_);replace E0:=E0.upd hU hg6;replace hA:=hA.upd hU hB6 (by decide) (by decide);clear hU hB6;have hB6:Blk _ b6 54 (zEY t):=hN;clear hN;refine rm [4,6,20,21,22] K ?_;refine rj fun K => ?_;refine K1 (zK zero258 fun xb w7 hb hE hBx hs => ?_);have hgx:w.heap.size≤xb:=by rw [hb];exact E0.size
     replace E0:=E0.trans hE;replace hA:=hA.ext hE;replace hB6:=hB6.ext hE;clear hE hb hs;have hX:=XBlk.zero hBx;clear hBx;refine rm [4,6,7,20,21,22] K ?_;refine zA (rj fun K=>K1 (zB fo54_0 rfl (K1 (zD zCm rfl hB6 rfl (K1 (zB fo54_1 rfl (K1 (zD zCm rfl hB6 rfl (K1 (zB fo54_2 rfl (K1 (zD zCm rfl hB6 rfl (K1 (zB fo54_3 rfl (K1 (zD zCm rfl hB6 rfl (K1 (zj (cs := #[S t.lo,S t.hi,S t.least,S t.most]) (by kernel_rfl) (mv (rm [4,7,20,21,22,34,35] K ?_))))))))))))))))))));refine zG (zo (X:=Nat) (fun k ρ w'=>∃ l4,Keep ρ [(4,va),(7,.pointer (some ⟨xb,0,none⟩)),(20,.slice mp m.length mc),(21,.int .i64 (m.length:Int)),(22,.int .i64 (i:Int)),(34,.agg #[S t.lo,S t.hi,S t.least,S t.most]),(35,.int .i64 (k:Int))]∧k≤4∧Ext w w'∧AccBd w.heap.size w' va A∧XBlk w' xb l4∧(∀ j,j<k→(zr ((txt t).getD j [])).2=0∧l4.getD j 0=(zr ((txt t).getD j [])).1)) (fun k=>4-k) 0 ⟨_,(kp rfl),Nat.zero_le _,E0,hA,hX,fun j hj=>absurd hj (by omega)⟩ ?_);clear E0 hA hX hB6;rintro k ρ1 w1 ⟨l4,hk,hkl,E0,hA,hX,hq⟩;refine wpe_k _ hk ?_;clear hk ρ1;refine zA ?_;rcases Nat.lt_or_ge k 4 with hk4 | hk4
     · have htk:((txt t).getD k []).length<1000000000:=by
        match k,hk4 with
        | 0,_=>exact htl.1
        | 1,_=>exact htl.2.1
        | 2,_=>exact htl.2.2.1
        | 3,_=>exact htl.2.2.2
       refine K6 fun K=>K8 rfl (rs [4,7,20,21,22,34,35,36] K ?_);refine zA (wct (congrArg Value.bool (decide_eq_true (by omega))) (sk (zA (zG (rJ fun K=>K1 (zBf arr259 zCm rfl rfl hk4 (txt_at t hk4) (ag (ag (rm [4,7,8,9,20,21,22,34,35] K ?_)))))))));refine rJ fun K=>K1 (j2 E0 hA.ext hX.ext hb65 (zJT htk) fun v41 w2 E0 hA hX hr => ?_);obtain ⟨u,rfl,N42⟩:=hr;refine mv (xt rfl (xt rfl ?_));refine K1 (zK zAP fun gb w7 hb hE hBg hs => ?_);have hgg:w.heap.size≤gb:=by rw [hb];exact E0.size
       replace E0:=E0.trans hE;replace hA:=hA.ext hE;replace hX:=hX.ext hE;replace N42:=N42.ext hE;clear hE hb hs;refine K1 (zI rfl N42 (Cell3.of hBg rfl) fun _ w9 hU hNA => ?_);replace E0:=E0.upd hU hgg;replace hA:=hA.upd hU hBg (by decide) (by decide);replace hX:=hX.updT hU hBg (by decide) (by decide);clear hU hBg N42;refine ag (rm [4,7,8,10,11,20,21,22,34,35] K ?_);refine zA (rJ fun K=>K8 rfl (rm [4,7,8,10,11,20,21,22,34,35,45] K ?_));refine K0 rfl ?_ ?_<;>intro hc
       · have he0:(zr ((txt t).getD k [])).2≠0:=bne_iff_ne.1 hc;clear hc;obtain rfl:=bandsL_err hk4 (fun j hj=>(hq j hj).1) he0 h;refine rJ fun K=>ag (ag (rm [2,3,7,20,21,22,34,35] K ?_));exact zE (zY (zh (zY (zAr (zh (zY (zh (zY (zAr (zh (zY (zQ ⟨rfl,_,zn rfl rfl rfl,E0,_,rfl,AccBd.nil⟩))))))))))))
       · have he0:(zr ((txt t).getD k [])).2=0:=bne_eq_false_iff_eq.1 hc;clear hc;refine sk (rI fun K=>K1 (zL rfl hNA fun v48 N48=>K1 (zq (ix:=(k:Int)) zBc rfl rfl (by omega) (by omega) ?_)));have hl4:=hX;obtain ⟨_,_,_,hl4,_⟩:=hl4;refine K1 (runs_xstore (k:=k) rfl (by rw [Int.toNat_natCast];omega) N48 hX hk4 fun v w2 hU hN => ?_);replace E0:=E0.upd hU hgx;replace hA:=(let ⟨_,e1,_⟩:=hX;hA.upd hU e1 (by decide) (by decide));clear hU hX N48 hNA;have hX:=hN;clear hN;refine rl K (zT (zN (K5 [4,7,20,21,22,34,35] ?_)));refine K6 fun K=>K1 (zy (b:=1) (k+1) rfl rfl rfl (by omega) (mv (rl K (zV (⟨rfl,k+1,⟨_,(kp rfl),by omega,E0,hA,hX,fun j hj => ?_⟩,by omega⟩)))));have hl4:l4.length=4:=hl4;by_cases hjk:j=k
         · subst hjk;exact ⟨he0,by simp [hl4,hk4]⟩
         · obtain ⟨a1,a2⟩:=hq j (by omega);exact ⟨a1,by rw [← a2];simp [List.getElem?_set_ne (Ne.symm hjk)]⟩
     · obtain rfl:k=4:=by omega
       obtain ⟨bd,hbd,hgo⟩:=bandsL_go (fun j hj=>(hq j hj).1) h;have q0:l4.getD 0 0=(zr t.lo).1:=(hq 0 (by omega)).2;have q1:l4.getD 1 0=(zr t.hi).1:=(hq 1 (by omega)).2;have q2:l4.getD 2 0=(zr t.least).1:=(hq 2 (by omega)).2;have q3:l4.getD 3 0=(zr t.most).1:=(hq 3 (by omega)).2;clear hq h;refine K6 fun K=>K8 rfl (rs [4,7,20,21,22,34,35,36] K ?_);refine zA (wcf (congrArg Value.bool (decide_eq_false (by omega))) (zi (zAE (zv (zP (zN (zA (zA ?_))))))));rcases badBand_cases hbd with ⟨c0,hbd⟩ | ⟨z,c0,hz,c1,hbd⟩ | ⟨z,c0,hz,c1,c2,hbd⟩ | ⟨z,y,c0,hz,c1,c2,hy,c3,hbd⟩ | ⟨z,y,c0,hz,c1,c2,hy,c3,hbd⟩
       · subst hbd;rw [if_pos rfl] at hgo;obtain rfl:=Option.some.inj hgo;refine K6 fun K=>K1 (zq (ix:=0) zBc rfl rfl (by decide) (by decide) (K1 (zAQ (k:=0) rfl rfl hX (by decide) fun v52 N52 => ?_)));rw [q0] at N52;refine K1 (j2 E0 hA.ext hX.ext hb19 (zAY N52) fun vi w2 E0 hA hX hr => ?_);subst hr;refine K9 true rfl (decide_eq_true (zAp.2 c0)) (mv (K3 (K3 (K3 (K3 (K3 (K3 (pc0 rfl (mv (K3 (K3 (K3 (K3 (pc0 rfl ?_))))))))))))));refine mv (K3 (K3 (K3 (K3 (K3 (K3 (pc0 rfl (rs [4,7,20,21,22,34,35,56,57,58,59,60,61,64,65,66,67,70,71,72,73,74,75,76] K ?_))))))));refine wct rfl (rj fun K=>ag (ag (rm [2,3,7,20,21,22,34,35] K ?_)));exact zE (zY (zh (zY (zAr (zh (zY (zQ ⟨rfl,_,zn rfl rfl rfl,E0,_,rfl,AccBd.nil⟩)))))))
       · subst hbd;rw [if_pos rfl] at hgo;obtain rfl:=Option.some.inj hgo;obtain ⟨r1,rfl⟩:=zCh hz;refine K6 fun K=>K1 (zq (ix:=0) zBc rfl rfl (by decide) (by decide) (K1 (zAQ (k:=0) rfl rfl hX (by decide) fun v52 N52 => ?_)));rw [q0] at N52;refine K1 (j2 E0 hA.ext hX.ext hb19 (zAY N52) fun vi w2 E0 hA hX hr => ?_);subst hr;refine K9 false rfl (decide_eq_false (fun e=>c0 (zAp.1 e))) (mv (K2 (zq (ix:=0) zBc rfl rfl (by decide) (by decide) (K2 (zAQ (k:=0) rfl rfl hX (by decide) fun v57 N57 => ?_)))));rw [q0] at N57;refine K2 (zq (ix:=1) zBc rfl rfl (by decide) (by decide) (K2 (zAQ (k:=1) rfl rfl hX (by decide) fun v59 N59 => ?_)));rw [q1] at N59;refine K2 (j2 E0 hA.ext hX.ext hb73 (zCn N57 N59 r1) fun vi w2 E0 hA hX hr => ?_);subst hr;refine K2 (zH (v := .bool true) rfl rfl (congrArg (fun z=>some (Value.bool z)) (decide_eq_true c1)) (pc0 rfl (mv (K3 (K3 (K3 (K3 (pc0 rfl (mv (K3 (K3 (K3 (K3 (K3 (K3 ?_)))))))))))))));refine pc0 rfl (rs [4,7,20,21,22,34,35,56,57,58,59,60,61,64,65,66,67,70,71,72,73,74,75,76] K ?_);refine wct rfl (rj fun K=>ag (ag (rm [2,3,7,20,21,22,34,35] K ?_)));exact zE (zY (zh (zY (zAr (zh (zY (zQ ⟨rfl,_,zn rfl rfl rfl,E0,_,rfl,AccBd.nil⟩)))))))
       · subst hbd;rw [if_pos rfl] at hgo;obtain rfl:=Option.some.inj hgo;obtain ⟨r1,rfl⟩:=zCh hz;refine K6 fun K=>K1 (zq (ix:=0) zBc rfl rfl (by decide) (by decide) (K1 (zAQ (k:=0) rfl rfl hX (by decide) fun v52 N52 => ?_)));rw [q0] at N52;refine K1 (j2 E0 hA.ext hX.ext hb19 (zAY N52) fun vi w2 E0 hA hX hr => ?_);subst hr;refine K9 false rfl (decide_eq_false (fun e=>c0 (zAp.1 e))) (mv (K2 (zq (ix:=0) zBc rfl rfl (by decide) (by decide) (K2 (zAQ (k:=0) rfl rfl hX (by decide) fun v57 N57 => ?_)))));rw [q0] at N57;refine K2 (zq (ix:=1) zBc rfl rfl (by decide) (by decide) (K2 (zAQ (k:=1) rfl rfl hX (by decide) fun v59 N59 => ?_)));rw [q1] at N59;refine K2 (j2 E0 hA.ext hX.ext hb73 (zCn N57 N59 r1) fun vi w2 E0 hA hX hr => ?_);subst hr;refine K2 (zH (v := .bool false) rfl rfl (congrArg (fun z=>some (Value.bool z)) (decide_eq_false c1)) (pc0 rfl (mv (K2 (zq (ix:=2) zBc rfl rfl (by decide) (by decide) (K2 (zAQ (k:=2) rfl rfl hX (by decide) fun v65 N65 => ?_)))))));rw [q2] at N65;refine K2 (j2 E0 hA.ext hX.ext hb19 (zAY N65) fun vi w2 E0 hA hX hr => ?_);subst hr
         refine K2 (zH (v := .bool true) rfl rfl (congrArg (fun z=>some (Value.bool z)) (decide_eq_true (zAp.2 c2))) (pc0 rfl (mv (K3 (K3 (K3 (K3 (K3 (K3 (pc0 rfl (rs [4,7,20,21,22,34,35,56,57,58,59,60,61,64,65,66,67,70,71,72,73,74,75,76] K ?_)))))))))));refine wct rfl (rj fun K=>ag (ag (rm [2,3,7,20,21,22,34,35] K ?_)));exact zE (zY (zh (zY (zAr (zh (zY (zQ ⟨rfl,_,zn rfl rfl rfl,E0,_,rfl,AccBd.nil⟩)))))))
       · subst hbd;rw [if_pos rfl] at hgo;obtain rfl:=Option.some.inj hgo;obtain ⟨r1,rfl⟩:=zCh hz;obtain ⟨r2,rfl⟩:=zCh hy;refine K6 fun K=>K1 (zq (ix:=0) zBc rfl rfl (by decide) (by decide) (K1 (zAQ (k:=0) rfl rfl hX (by decide) fun v52 N52 => ?_)));rw [q0] at N52;refine K1 (j2 E0 hA.ext hX.ext hb19 (zAY N52) fun vi w2 E0 hA hX hr => ?_);subst hr;refine K9 false rfl (decide_eq_false (fun e=>c0 (zAp.1 e))) (mv (K2 (zq (ix:=0) zBc rfl rfl (by decide) (by decide) (K2 (zAQ (k:=0) rfl rfl hX (by decide) fun v57 N57 => ?_)))));rw [q0] at N57;refine K2 (zq (ix:=1) zBc rfl rfl (by decide) (by decide) (K2 (zAQ (k:=1) rfl rfl hX (by decide) fun v59 N59 => ?_)));rw [q1] at N59;refine K2 (j2 E0 hA.ext hX.ext hb73 (zCn N57 N59 r1) fun vi w2 E0 hA hX hr => ?_);subst hr;refine K2 (zH (v := .bool false) rfl rfl (congrArg (fun z=>some (Value.bool z)) (decide_eq_false c1)) (pc0 rfl (mv (K2 (zq (ix:=2) zBc rfl rfl (by decide) (by decide) (K2 (zAQ (k:=2) rfl rfl hX (by decide) fun v65 N65 => ?_)))))));rw [q2] at N65;refine K2 (j2 E0 hA.ext hX.ext hb19 (zAY N65) fun vi w2 E0 hA hX hr => ?_);subst hr
         refine K2 (zH (v := .bool false) rfl rfl (congrArg (fun z=>some (Value.bool z)) (decide_eq_false (fun e=>c2 (zAp.1 e)))) (pc0 rfl (mv (K2 (zq (ix:=2) zBc rfl rfl (by decide) (by decide) (K2 (zAQ (k:=2) rfl rfl hX (by decide) fun v71 N71 => ?_)))))));rw [q2] at N71;refine K2 (zq (ix:=3) zBc rfl rfl (by decide) (by decide) (K2 (zAQ (k:=3) rfl rfl hX (by decide) fun v73 N73 => ?_)));rw [q3] at N73;refine K2 (j2 E0 hA.ext hX.ext hb73 (zCn N71 N73 r2) fun vi w2 E0 hA hX hr => ?_);subst hr;refine K2 (zH (v := .bool true) rfl rfl (congrArg (fun z=>some (Value.bool z)) (decide_eq_true c3)) (pc0 rfl (rs [4,7,20,21,22,34,35,56,57,58,59,60,61,64,65,66,67,70,71,72,73,74,75,76] K ?_)));refine wct rfl (rj fun K=>ag (ag (rm [2,3,7,20,21,22,34,35] K ?_)));exact zE (zY (zh (zY (zAr (zh (zY (zQ ⟨rfl,_,zn rfl rfl rfl,E0,_,rfl,AccBd.nil⟩)))))))
       · subst hbd;rw [if_neg (by decide)] at hgo;obtain ⟨r1,rfl⟩:=zCh hz;obtain ⟨r2,rfl⟩:=zCh hy;refine K6 fun K=>K1 (zq (ix:=0) zBc rfl rfl (by decide) (by decide) (K1 (zAQ (k:=0) rfl rfl hX (by decide) fun v52 N52 => ?_)));rw [q0] at N52;refine K1 (j2 E0 hA.ext hX.ext hb19 (zAY N52) fun vi w2 E0 hA hX hr => ?_);subst hr;refine K9 false rfl (decide_eq_false (fun e=>c0 (zAp.1 e))) (mv (K2 (zq (ix:=0) zBc rfl rfl (by decide) (by decide) (K2 (zAQ (k:=0) rfl rfl hX (by decide) fun v57 N57 => ?_)))));rw [q0] at N57;refine K2 (zq (ix:=1) zBc rfl rfl (by decide) (by decide) (K2 (zAQ (k:=1) rfl rfl hX (by decide) fun v59 N59 => ?_)));rw [q1] at N59;refine K2 (j2 E0 hA.ext hX.ext hb73 (zCn N57 N59 r1) fun vi w2 E0 hA hX hr => ?_);subst hr;refine K2 (zH (v := .bool false) rfl rfl (congrArg (fun z=>some (Value.bool z)) (decide_eq_false c1)) (pc0 rfl (mv (K2 (zq (ix:=2) zBc rfl rfl (by decide) (by decide) (K2 (zAQ (k:=2) rfl rfl hX (by decide) fun v65 N65 => ?_)))))));rw [q2] at N65;refine K2 (j2 E0 hA.ext hX.ext hb19 (zAY N65) fun vi w2 E0 hA hX hr => ?_);subst hr
         refine K2 (zH (v := .bool false) rfl rfl (congrArg (fun z=>some (Value.bool z)) (decide_eq_false (fun e=>c2 (zAp.1 e)))) (pc0 rfl (mv (K2 (zq (ix:=2) zBc rfl rfl (by decide) (by decide) (K2 (zAQ (k:=2) rfl rfl hX (by decide) fun v71 N71 => ?_)))))));rw [q2] at N71;refine K2 (zq (ix:=3) zBc rfl rfl (by decide) (by decide) (K2 (zAQ (k:=3) rfl rfl hX (by decide) fun v73 N73 => ?_)));rw [q3] at N73;refine K2 (j2 E0 hA.ext hX.ext hb73 (zCn N71 N73 r2) fun vi w2 E0 hA hX hr => ?_);subst hr;refine K2 (zH (v := .bool false) rfl rfl (congrArg (fun z=>some (Value.bool z)) (decide_eq_false c3)) (pc0 rfl (rs [4,7,20,21,22,34,35,56,57,58,59,60,61,64,65,66,67,70,71,72,73,74,75,76] K ?_)));refine wcf rfl (sk (rI fun K=>K1 (zq (ix:=0) zBc rfl rfl (by decide) (by decide) (K1 (zAQ (k:=0) rfl rfl hX (by decide) fun v79 N79 => ?_)))));rw [q0] at N79;obtain ⟨n79,d79,rfl,hn79,hd79⟩:=N79;refine K1 (zq (ix:=1) zBc rfl rfl (by decide) (by decide) (K1 (zAQ (k:=1) rfl rfl hX (by decide) fun v81 N81 => ?_)));rw [q1] at N81;obtain ⟨n81,d81,rfl,hn81,hd81⟩:=N81
         refine K1 (zj (cs := #[.bool (decide ((zr t.lo).1<0)),n79,d79,.bool (decide ((zr t.hi).1<0)),n81,d81]) (by kernel_rfl) (K1 (zq (ix:=2) zBc rfl rfl (by decide) (by decide) (K1 (zAQ (k:=2) rfl rfl hX (by decide) fun v84 N84 => ?_)))));rw [q2] at N84;obtain ⟨n84,d84,rfl,hn84,hd84⟩:=N84;refine K1 (zq (ix:=3) zBc rfl rfl (by decide) (by decide) (K1 (zAQ (k:=3) rfl rfl hX (by decide) fun v86 N86 => ?_)));rw [q3] at N86;obtain ⟨n86,d86,rfl,hn86,hd86⟩:=N86;refine K1 (zj (cs := #[.bool (decide ((zr t.lo).1<0)),n79,d79,.bool (decide ((zr t.hi).1<0)),n81,d81,.bool (decide ((zr t.least).1<0)),n84,d84,.bool (decide ((zr t.most).1<0)),n86,d86]) (by kernel_rfl) ?_);refine K1 (zR (cs:=[.bool (decide ((zr t.lo).1<0)),n79,d79,.bool (decide ((zr t.hi).1<0)),n81,d81,.bool (decide ((zr t.least).1<0)),n84,d84,.bool (decide ((zr t.most).1<0)),n86,d86]) zGT info144' (by decide) (by decide) (by kernel_rfl) fun sb w10 hb hE hBb hs => ?_)
         have hC:BandC w10 [.bool (decide ((zr t.lo).1<0)),n79,d79,.bool (decide ((zr t.hi).1<0)),n81,d81,.bool (decide ((zr t.least).1<0)),n84,d84,.bool (decide ((zr t.most).1<0)),n86,d86] ⟨(zr t.lo).1,(zr t.hi).1,(zr t.least).1,(zr t.most).1⟩ :=
          ⟨⟨_,_,rfl,hn79.ext hE,hd79.ext hE⟩,⟨_,_,rfl,hn81.ext hE,hd81.ext hE⟩,⟨_,_,rfl,hn84.ext hE,hd84.ext hE⟩,⟨_,_,rfl,hn86.ext hE,hd86.ext hE⟩⟩
         replace E0:=E0.trans hE;replace hA:=hA.ext hE;clear hE hb hs hX;refine K1 (runs_append_band hA rfl hBb rfl hC (by omega) E0.size fun v89 w11 hY hA2 => ?_);replace E0:=hY.ext (Nat.le_refl _) E0;clear hA hY hBb hC;refine ag (rl K (zT (zN (K5 [4,7,20,21,22,34,35,56,57,58,59,60,61,64,65,66,67,70,71,72,73,74,75] ?_))));exact K6 fun K=>K1 (zy (b:=1) (i+1) rfl rfl rfl (by omega) (mv (rl K (zV (⟨rfl,i+1,⟨_,_,(kp rfl),by omega,E0,hA2,by simp [hAl],hgo⟩,by omega⟩)))))
   · obtain rfl:i=m.length:=by omega
     rw [List.drop_length] at h;obtain rfl:(A,(0:Int))=R:=Option.some.inj h;refine K6 fun K=>K8 rfl (rs [4,20,21,22,23] K ?_);refine zA (wcf (congrArg Value.bool (decide_eq_false (by omega))) (zi (zAE (zv (zP (zN (rJ fun K=>ag (ag (rm [2,3,20,21,22] K ?_)))))))));exact zE (zQ ⟨rfl,_,zn rfl rfl rfl,E0,_,rfl,hA⟩)
variable {B:Band} {c2 cv u1 u2 vd vn:Value}
theorem fails_some {num den:Poly} {f:Bool} (h:fails num den B=some f):∃ up low a,rules num den B.least B.most=some (up,low)∧zGz up B.lo B.hi=some a∧((a=false∧f=true)∨(a=true∧∃ c,zGz low B.lo B.hi=some c∧f = !c)):=by
 unfold fails at h;obtain ⟨⟨up,low⟩,h1,h⟩:=bind_some h;obtain ⟨a,h2,h⟩:=bind_some h;refine ⟨up,low,a,h1,h2,?_⟩;split at h
 · next e=>exact .inl ⟨e,(Option.some.inj h).symm⟩
 · next e =>
   obtain ⟨c,h3,h4⟩:=map_some h;exact .inr ⟨by simpa using e,c,h3,h4.symm⟩
theorem failing1_ok {bn bd:Nat} {num den:Poly} {f:Bool} (hb:zIa w v B) (hN:Blk w bn 25 [vn]) (hD:Blk w bd 25 [vd]) (h1:zM w vn num) (h2:zM w vd den) (h:fails num den B=some f):Ret prog 185 #[v,.pointer (some ⟨bn,0,none⟩),.pointer (some ⟨bd,0,none⟩)] w (fun r _=>r = .bool f):=by
 obtain ⟨c,rfl,hcl,hC⟩:=hb;have E0:Ext w w:=Ext.refl w;refine J0 24 func185 rfl (rj fun K => ?_);refine K1 (zk fun b1 w1 hb hE hB1 hs => ?_);have hgb1:w.heap.size≤b1:=by rw [hb];exact E0.size
 replace E0:=E0.trans hE;clear hE hs hb;refine ag (rm [1,2,3] K ?_);refine zA (zA ?_);obtain ⟨up,low,a,hr,hu,hf⟩:=fails_some h;clear h;replace hB1:Blk _ b1 144 c:=hB1;replace hC:=hC.ext E0;replace hN:=hN.ext E0;replace hD:=hD.ext E0;replace h1:=h1.ext E0;replace h2:=h2.ext E0;refine K6 fun K=>K1 (zW zJX rfl hB1 (by omega) ?_);rw [zIm hcl];refine K1 (zD zBQ rfl hN rfl (K1 (zD zBQ rfl hD rfl (K1 (j2 E0 hB1.ext hC.ext hb186 (zMH ⟨c,rfl,hcl,hC⟩ h1 h2 hr) fun v14 w2 E0 hB1 hC hr3 => ?_)))));obtain ⟨va,vb,rfl,hU,hL⟩:=hr3;clear h1 h2 hN hD;refine mv (rs [3,10,11] K ?_);refine zG (zo (X:=Nat) (fun i ρ w'=>Keep ρ [(3,.pointer (some ⟨b1,0,none⟩)),(10,.agg #[va,vb]),(11,.int .i64 (i:Int))]∧i≤2∧Ext w w'∧Blk w' b1 144 c∧BandC w' c B∧zM w' va up∧zM w' vb low∧(i=0∨(a=true∧∃ q,zGz low B.lo B.hi=some q∧f = !q))∧(i=2→f=false)) (fun i=>2-i) 0 ⟨(kp rfl),by omega,E0,hB1,hC,hU,hL,.inl rfl,fun e=>by cases e⟩ ?_);clear E0 hB1 hC hU hL;rintro i ρ1 w1 ⟨hk,hil,E0,hB1,hC,hU,hL,hi0,hi2⟩;refine wpe_k _ hk ?_;clear hk ρ1;refine zA ?_;rcases (show i=0∨i=1∨i=2 from by omega) with rfl | rfl | rfl
 · skip
   refine K6 fun K=>K8 rfl (rs [3,10,11,12] K ?_);refine zA (wct rfl (sk (zA (zG (rj fun K=>K1 (zBf (ix:=0) zDe zBQ rfl rfl (by decide) rfl (ag (rm [3,6,10,11] K ?_))))))));refine rJ fun K=>K1 (zB zFV rfl (K1 (zB zCA rfl (K1 (zAK rfl hB1 (by omega) hC.1 fun v17 N17=>K1 (zB zFV rfl (K1 (zB zCW rfl (K1 (zAK rfl hB1 (by omega) hC.2.1 fun v20 N20=>K1 (j4 E0 hB1.ext hC.ext hU.ext hL.ext hb80 (zKb hU N17 N20 hu) fun vi w2 E0 hB1 hC hU hL hr => ?_)))))))))));subst hr;refine K1 (zAF rfl (rm [3,10,11,22] K ?_));refine K0 rfl ?_ ?_<;>intro hc
   · have ha:a=false:=by simpa using hc
     clear hc;have hft:f=true:=(hf.resolve_right (fun e=>by rw [ha] at e;exact absurd e.1 (by decide))).2;subst hft;refine rj fun K=>ag (rm [3,4,10,11] K ?_);exact zE (zh (zY (zAr (zh (zY (en rfl E0 rfl))))))
   · have ha:a=true:=by simpa using hc
     clear hc;refine zz (zT (zN (K6 fun K=>K1 (zy (a:=0) (b:=1) (1) rfl rfl rfl (by decide) (mv (rl K (zV ?_)))))))
     first
     | exact ⟨rfl,1,⟨(kp rfl),by omega,E0,hB1,hC,hU,hL,.inr (hf.resolve_left (fun e=>by rw [e.1] at ha;cases ha)),fun e=>by cases e⟩,by omega⟩
     | exact ⟨rfl,2,⟨(kp rfl),by omega,E0,hB1,hC,hU,hL,.inr ⟨ha1,q,hq,hfq⟩,fun _=>by rw [hfq,hq1];rfl⟩,by omega⟩
 · obtain ⟨ha1,q,hq,hfq⟩:=hi0.resolve_left (by decide);refine K6 fun K=>K8 rfl (rs [3,10,11,12] K ?_);refine zA (wct rfl (sk (zA (zG (rj fun K=>K1 (zBf (ix:=1) zDe zBQ rfl rfl (by decide) rfl (ag (rm [3,6,10,11] K ?_))))))));refine rJ fun K=>K1 (zB zFV rfl (K1 (zB zCA rfl (K1 (zAK rfl hB1 (by omega) hC.1 fun v17 N17=>K1 (zB zFV rfl (K1 (zB zCW rfl (K1 (zAK rfl hB1 (by omega) hC.2.1 fun v20 N20=>K1 (j4 E0 hB1.ext hC.ext hU.ext hL.ext hb80 (zKb hL N17 N20 hq) fun vi w2 E0 hB1 hC hU hL hr => ?_)))))))))));subst hr;refine K1 (zAF rfl (rm [3,10,11,22] K ?_));refine K0 rfl ?_ ?_<;>intro hc
   · have hq0:q=false:=by simpa using hc
     clear hc;subst hq0;obtain rfl:f=true:=hfq;refine rj fun K=>ag (rm [3,4,10,11] K ?_);exact zE (zh (zY (zAr (zh (zY (en rfl E0 rfl))))))
   · have hq1:q=true:=by simpa using hc
     clear hc;refine zz (zT (zN (K6 fun K=>K1 (zy (a:=1) (b:=1) (2) rfl rfl rfl (by decide) (mv (rl K (zV ?_)))))))
     first
     | exact ⟨rfl,1,⟨(kp rfl),by omega,E0,hB1,hC,hU,hL,.inr (hf.resolve_left (fun e=>by rw [e.1] at ha;cases ha)),fun e=>by cases e⟩,by omega⟩
     | exact ⟨rfl,2,⟨(kp rfl),by omega,E0,hB1,hC,hU,hL,.inr ⟨ha1,q,hq,hfq⟩,fun _=>by rw [hfq,hq1];rfl⟩,by omega⟩
 · have hff:=hi2 rfl;subst hff;refine K6 fun K=>K8 rfl (rs [3,10,11,12] K ?_);refine zA (wcf rfl (zi (zAE (zv (zP (zN (rj fun K=>ag (rm [3,4,10,11] K ?_))))))));exact zE (en rfl E0 rfl)
theorem IndexB_ok {c1:Value} {fn:FuncId} {A:List Band} {num den:Poly} {R:Int} (hc:zCl w cv A) (hAl0:A.length≤8192) (hfb:zAq prog fn) (h:zEE num den A 0=some R) (hsig:∀ (i:Nat) (B:Band) (f:Bool),A[i]? = some B→fails num den B=some f→∀ (w':World) (v:Value),Ext w w'→zIa w' v B→Ret prog fn #[v,c1,c2] w' (fun u _=>u = .bool f)):Ret prog 184 #[cv,.func (.func fn) #[] #[c1,c2]] w (fun r _=>r = .int .i64 R):=by
 obtain ⟨ap,ac,rfl,hA⟩:=hc;have E0:Ext w w:=Ext.refl w;refine J0 19 func184 rfl (rj fun K=>ag (rm [0,1] K ?_));refine zA (rJ fun K=>K1 (zJ zEP rfl (mv (rm [0,1,7,8] K ?_))));refine zG (zo (X:=Nat) (fun i ρ w'=>Keep ρ [(0,.slice ap A.length ac),(1,.func (.func fn) #[] #[c1,c2]),(7,.int .i64 (A.length:Int)),(8,.int .i64 (i:Int))]∧i≤A.length∧Ext w w'∧zEE num den (A.drop i) i=some R) (fun i=>A.length-i) 0 ⟨(kp rfl),Nat.zero_le _,E0,h⟩ ?_);clear E0 h;rintro i ρ1 w1 ⟨hk,hil,E0,h⟩;refine wpe_k _ hk ?_;clear hk ρ1;refine zA ?_;rcases Nat.lt_or_ge i A.length with hi | hi
 · obtain ⟨B,hB⟩:∃ B,A[i]? = some B:=⟨A[i],List.getElem?_eq_getElem hi⟩;have hdr:A.drop i=B :: A.drop (i+1):=by rw [List.drop_eq_getElem_cons hi];congr 1;rw [List.getElem?_eq_getElem hi] at hB;exact Option.some.inj hB
   rw [hdr] at h;unfold zEE at h;obtain ⟨f,hf0,h⟩:=bind_some h;obtain ⟨ab,cs,hap,hAB,hAl,hAt⟩:=(hA.resolve_left (fun e=>by subst e;simp at hi));replace hAB:=hAB.ext E0;replace hAt:zJQ w1 cs 0 A:=fun i B hB=>(hAt i B hB).ext E0;refine K6 fun K=>K8 rfl (rs [0,1,7,8,9] K ?_);refine zA (wct (congrArg Value.bool (decide_eq_true (by omega))) (sk (zA (zG (rJ fun K=>ag (rm [0,1,5,7,8] K ?_))))));refine rJ fun K=>mv (mv (K1 (zO zEP (congrArg (fun q=>Value.slice q A.length ac) hap) rfl (by omega) (by omega) ?_)));rw [Int.toNat_natCast,Nat.zero_add,Nat.mul_comm];refine K1 (zGF rfl hAB hAl hAt hB fun v15 N15=>K1 (zBU rfl hfb (CallK.of_ret (hsig i B f hB hf0 _ v15 E0 N15) fun vi w2 hE hr => ?_)));replace E0:=E0.trans hE;clear hE;subst hr;refine rm [0,1,5,7,8,16] K ?_;refine K0 rfl ?_ ?_<;>intro hc
   · have hft:f=true:=hc;subst hft;clear hc;rw [if_pos rfl] at h;obtain rfl:=Option.some.inj h;refine rJ fun K=>ag (rm [0,1,4,7,8] K ?_);exact zE (zh (zY (zAr (zh (zY (en rfl E0 rfl))))))
   · have hft:f=false:=hc;subst hft;clear hc;rw [if_neg (by decide)] at h;exact zz (zT (zN (K6 fun K=>K1 (zy (b:=1) (i+1) rfl rfl rfl (by omega) (mv (rl K (zV (⟨rfl,i+1,⟨(kp rfl),by omega,E0,h⟩,by omega⟩))))))))
 · obtain rfl:i=A.length:=by omega
   rw [List.drop_length] at h;obtain rfl:(-1:Int)=R:=Option.some.inj h;refine K6 fun K=>K8 rfl (rs [0,1,7,8,9] K ?_);refine zA (wcf (congrArg Value.bool (decide_eq_false (by omega))) (zi (zAE (zv (zP (zN (rj fun K=>ag (rm [0,1,4,7,8] K ?_))))))));exact zE (en rfl E0 rfl)
theorem zIo {num den:Poly} {A:List Band} {R:Int} (h1:zM w u1 num) (h2:zM w u2 den) (hl:zCl w v A) (hl0:A.length≤8192) (h:zEE num den A 0=some R):Ret prog 88 #[u1,u2,v] w (fun r _=>r = .int .i64 R):=by
 obtain ⟨p1,k1,rfl,e1⟩:=h1;obtain ⟨p2,k2,rfl,e2⟩:=h2;have h1:zM w (.slice p1 num.length k1) num:=⟨p1,k1,rfl,e1⟩;have h2:zM w (.slice p2 den.length k2) den:=⟨p2,k2,rfl,e2⟩;refine J0 10 func88 rfl (rj fun K => ?_);refine K1 (zk fun b1 w1 hb hE hB1 hs => ?_);have hgb1:w.heap.size≤b1:=by rw [hb];exact E0.size
 replace E0:=E0.trans hE;clear hE hs hb;refine K1 (zk fun b2 w2 hb hE hB2 hs => ?_);have hgb2:w.heap.size≤b2:=by rw [hb];exact E0.size
 have ne_b1_b2:b1≠b2:=by have:=hB1.lt;omega
 replace E0:=E0.trans hE;replace hB1:=hB1.ext hE;clear hE hs hb;refine ag (rm [2,3,4] K ?_);refine rJ fun K=>K1 (zBL (K1 (zC hb184 (CallK.of_ret (IndexB_ok (hl.ext E0) hl0 hb185 h fun i B f hB hf w' v hE hv => ?_) fun vi w2 hE hr => ?_) rfl)))
 · exact failing1_ok hv (hB1.ext hE) (hB2.ext hE) ((h1.ext E0).ext hE) ((h2.ext E0).ext hE) hf
 replace E0:=E0.trans hE;clear hE;subst hr;refine ag (rm [6] K ?_);exact zE (en rfl E0 rfl)
end Go.Proofs.YtjiendlfobjanaaGreatDoor
