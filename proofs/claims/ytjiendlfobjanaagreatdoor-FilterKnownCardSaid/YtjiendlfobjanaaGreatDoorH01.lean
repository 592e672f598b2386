/-
  A part of the proof: Base, Draw, Draw2, Draw3, Draw4, App, Draw5, DrawG, DrawE, DrawT, DrawP.
-/
import Derived.Below
import Derived.Laws.Cells
import Derived.Laws.Tables
import Derived.OrdersIn
import Derived.OwnWalk
import Derived.RangeFuncKeeps
import Derived.Shelf.Abstract
import Derived.TacticsIn
namespace Go.Proofs.YtjiendlfobjanaaGreatDoor
open Go Go.RowKit
variable {E N b bytes c cap i id k len n t:Nat} {K' Φ:Value→World→Prop} {P:Program} {T T' t' ty:TypeId} {af:Array Edge} {args vs:Array Value} {cs cs':List Value} {dst:Option Tmp} {f:FuncId} {fn:Func} {g:Option (Nat×Bool)} {k':IntKind} {op:Op} {ops os:List Oper} {p:Option Addr} {pos:String} {r:Option Nat} {v z:Value} {w w':World} {x y:Operand} {α β:Type} {δ:List Deferred} {σ:Operand→Value}
def W (r:Option Nat):Fence:={ Fence.wide with round:=r }
theorem zMn {R:Ending→World→Prop} (h:Calls P f args w R):CallsIn (W r) n P f args w R:=by
 have:=(callsIn_wide (n:=n)).2 h;exact this
theorem callsW' {R:Ending→World→Prop} (h:CallsIn (W r) n P f args w R):Calls P f args w R:=by
 have:CallsIn Fence.wide n P f args w R:=h;exact callsIn_wide.1 this
def Runs (P:Program) (r:Option Nat) (o:Oper) (σ:Operand→Value) (w:World) (K:Value→World→Prop):Prop :=
 match (o.semAt r σ).run P w with
 | .ok (.value v) w'=>K v w'
 | .ok .skip w'=>K undef w'
 | .ok (.enter f args) w'=>Calls P f args w' (fun e w''=>∃ v,e = .returned v∧K v w'')
 | .ok (.row row args) w'=>RowsIn (W r) 0 P row args w' K
 | .ok (.round l f tmps assign body) w'=>RoundIn (W r) 0 P l f tmps assign body w' (fun e w''=>∃ v,e = .returned v∧K v w'')
 | _=>False
theorem Runs.wpIn {o:Oper} {a:Act} {K:Value→World→Prop} {next:Act→World→Prop} {Q:Exit→Act→World→Prop}
 (h:Runs P r o a.eval w K) (hk:∀ v w',K v w'→next (a.put o.dst v) w'):o.wpIn (W r) 0 P a w next Q:=by
 refine ⟨fun _ _=>trivial,?_⟩;show o.uponIn (W r) 0 P a next Q ((o.semAt r a.eval).run P w)
 unfold Runs at h;generalize (o.semAt r a.eval).run P w=x at h;cases x with
 | ok n w' =>
  cases n<;>simp only [Oper.uponIn] at h ⊢
  case value v=>exact hk _ _ h
  case skip=>exact hk _ _ h
  case enter f args =>
   refine ⟨(fun hd=>by cases hd),zMn (h.mono ?_)⟩;rintro e w'' ⟨v,rfl,hv⟩;exact hk _ _ hv
  case row row args=>exact ⟨(fun hd=>by cases hd),h.mono (fun v w'' hv=>hk _ _ hv)⟩
  case round =>
   refine ⟨(fun hd=>by cases hd),h.mono ?_⟩;rintro e w'' ⟨v,rfl,hv⟩;exact hk _ _ hv
 | halt x w'=>cases x<;>exact h.elim
theorem Runs.mono {o:Oper} {K:Value→World→Prop}
 (h:Runs P r o σ w K) (hk:∀ v w',K v w'→K' v w'):Runs P r o σ w K':=by
 unfold Runs at h ⊢;generalize (o.semAt r σ).run P w=x at h;cases x with
 | ok n w' =>
  cases n<;>simp only at h ⊢
  case value v=>exact hk _ _ h
  case skip=>exact hk _ _ h
  case enter f args=>exact h.mono (fun e w'' ⟨v,hv,hK⟩=>⟨v,hv,hk _ _ hK⟩)
  case row row args=>exact RowsIn.mono h (fun v w'' hv=>hk _ _ hv)
  case round=>exact h.mono (fun e w'' ⟨v,hv,hK⟩=>⟨v,hv,hk _ _ hK⟩)
 | halt x w'=>cases x<;>exact h.elim
abbrev Env:=List (Nat×Value)
def look1:Env→Nat→Value
 | [],_=>undef
 | (k,v) :: e,t=>if t=k then v else look1 e t
def look (ρ:Env):Operand→Value
 | .tmp t=>look1 ρ t
 | .const v=>v
 | .global g => .pointer (some ⟨g,0,none⟩)
 | .func f => .func (.func f) #[] #[]
def dom (ρ:Env):List Nat:=ρ.map Prod.fst
structure Fr (N:Nat) (a:Act) (ρ:Env):Prop where
 size:a.tmps.size=N
 at_:∀ t,t∈dom ρ→a.tmps.getD t undef=look1 ρ t
theorem Fr.eval {a:Act} {ρ:Env} (h:Fr N a ρ) (x:Operand) (hx:∀ t,x = .tmp t→t∈dom ρ):a.eval x=look ρ x:=by
 cases x with
 | tmp t=>exact h.at_ t (hx t rfl)
 | const v=>rfl
 | global g=>rfl
 | func f=>rfl
def ext (ρ:Env):Option Tmp→Value→Env
 | some d,v=>(d,v) :: ρ
 | none,_=>ρ
theorem Fr.put {a:Act} {ρ:Env} (h:Fr N a ρ) (dst:Option Tmp) (v:Value) (hd:∀ d,dst=some d→d<N):Fr N (a.put dst v) (ext ρ dst v):=by
 cases dst with
 | none=>exact h
 | some d =>
  have hdN:=hd d rfl;refine ⟨by simp [Act.put,h.size],fun t ht => ?_⟩;simp only [Act.put,ext,look1];by_cases htd:t=d
  · subst htd;simp [h.size,hdN]
  · rw [if_neg htd];have ht':t∈dom ρ:=by
     simp only [ext,dom,List.map_cons,List.mem_cons] at ht;rcases ht with ht | ht
     · exact absurd ht htd
     · exact ht
    rw [← h.at_ t ht'];simp [Array.getElem?_setIfInBounds_ne (Ne.symm htd)]
theorem Fr.keep {a:Act} {ρ ρ':Env} (h:Fr N a ρ) (hk:∀ t∈dom ρ',t∈dom ρ∧look1 ρ' t=look1 ρ t):Fr N a ρ' :=
 ⟨h.size,fun t ht=>by rw [(hk t ht).2];exact h.at_ t (hk t ht).1⟩
def zNw (l:List Operand):List Nat:=l.filterMap fun | .tmp t=>some t | _=>none
def seesL (ops:List Oper) (o:Oper):List Nat :=
 zNw o.op.operands.toList++(match o.guard with | some (j,_)=>((ops[j]?).bind (·.dst)).toList | none=>[])
def okOps (N:Nat) (ops:List Oper):List Oper→List Nat→Bool
 | [],_=>true
 | o :: os,D=>(seesL ops o).all (D.contains ·)&&(match o.dst with | some d=>decide (d<N) | none=>true)&&(match o.op with | .select _ _=>false | .defer _=>false | _=>true) &&
  okOps N ops os (match o.dst with | some d=>d :: D | none=>D)
def yes (want:Bool):Value→Bool
 | .bool b=>b==want
 | _=>false
theorem zKx {want:Bool} (h:v≠.bool want):yes want v=false:=by
 cases v<;>simp only [yes];rename_i b;cases hbw:b==want with
 | false=>rfl
 | true=>rw [beq_iff_eq] at hbw;subst hbw;exact absurd rfl h
def zBV (ops:List Oper) (o:Oper) (ρ:Env):Bool :=
 match o.guard with
 | none=>true
 | some (j,want)=>match (ops[j]?).bind (·.dst) with
  | some t=>yes want (look1 ρ t)
  | none=>false
theorem zBu {o:Oper} (h:∀ c,o.op≠.defer c):o.semAt r σ=execOp σ o:=Oper.semAt_eq _ _ _ h
theorem Runs.congr {o:Oper} {σ':Operand→Value} {K:Value→World→Prop} (hs:∀ cs b,o.op≠.select cs b) (hd:∀ c,o.op≠.defer c)
 (h:∀ x∈o.op.operands,σ x=σ' x) (hr:Runs P r o σ w K):Runs P r o σ' w K:=by
 unfold Runs at *;rw [zBu hd] at *;rwa [← execOp_congr o hs h]
def zAH (P:Program) (r:Option Nat) (ops:List Oper):List Oper→Env→World→(Env→World→Prop)→Prop
 | [],ρ,w,K=>K ρ w
 | o :: os,ρ,w,K=>if zBV ops o ρ=true then Runs P r o (look ρ) w (fun v w'=>zAH P r ops os (ext ρ o.dst v) w' K) else zAH P r ops os (ext ρ o.dst undef) w K
theorem zCN {l:List Operand} (h:Operand.tmp t∈l):t∈zNw l:=List.mem_filterMap.2 ⟨.tmp t,h,rfl⟩
theorem Fr.wanted {a:Act} {ρ:Env} (h:Fr N a ρ) {o:Oper} (hs:∀ t∈seesL ops o,t∈dom ρ) (hdst:∀ (t:Nat),t∈dom ρ→t<N) :
 Region.wanted o (yielded ops.toArray a.tmps)=zBV ops o ρ:=by
 unfold Region.wanted zBV;cases hg:o.guard with
 | none=>rfl
 | some gw =>
  obtain ⟨j,want⟩:=gw;simp only [yielded,List.getElem?_toArray];cases ht:(ops[j]?).bind (·.dst) with
  | none=>simp
  | some t =>
   have hmem:t∈dom ρ:=hs t (by simp [seesL,hg,ht]);have hv:=h.at_ t hmem;have hlt:=hdst t hmem;rw [← h.size] at hlt;simp only [Option.bind_some];rw [Array.getElem?_eq_getElem hlt];have hv':a.tmps[t]=look1 ρ t:=by rw [← hv];simp [hlt]
   rw [hv'];cases look1 ρ t<;>simp [yes]
theorem zEe {P:Program} {r:Option Nat} {N:Nat} {ops:List Oper} {Q:Exit→Act→World→Prop}:∀ (os:List Oper) (ρ:Env) (a:Act) (w:World) (K:Env→World→Prop),
 okOps N ops os (dom ρ)=true→(∀ t∈dom ρ,t<N)→Fr N a ρ→zAH P r ops os ρ w K→(∀ a' ρ' w',Fr N a' ρ'→a'.defers=a.defers→K ρ' w'→Q .normal a' w') →
 wpListIn (W r) 0 P ops.toArray Q os a w
 | [],ρ,a,w,K,_,_,hf,hs,hk=>hk a ρ w hf rfl hs
 | o :: os,ρ,a,w,K,hok,hdom,hf,hs,hk=>by
  simp only [okOps,Bool.and_eq_true,List.all_eq_true,List.contains_iff_mem] at hok;obtain ⟨⟨⟨h1,h2⟩,h3⟩,h4⟩:=hok;have hd:∀ d,o.dst=some d→d<N:=fun d hd=>by simpa [hd] using h2
  have hdomx:∀ v,dom (ext ρ o.dst v)=(match o.dst with | some d=>d :: dom ρ | none=>dom ρ):=fun v=>by cases o.dst<;>rfl
  have hdom':∀ v,∀ t∈dom (ext ρ o.dst v),t<N:=fun v t ht=>by
   cases hdd:o.dst with
   | none=>rw [hdd] at ht;exact hdom t ht
   | some d =>
    rw [hdd] at ht;simp only [ext,dom,List.map_cons,List.mem_cons] at ht;rcases ht with rfl | ht
    · exact hd _ hdd
    · exact hdom t ht
  have next:∀ v w',zAH P r ops os (ext ρ o.dst v) w' K→wpListIn (W r) 0 P ops.toArray Q os (a.put o.dst v) w':=fun v w' h' =>
   zEe os (ext ρ o.dst v) (a.put o.dst v) w' K (by rw [hdomx];exact h4) (hdom' v) (hf.put o.dst v hd) h' (fun a' ρ' w'' hf' hde hk'=>hk a' ρ' w'' hf' (by rw [hde];cases o.dst<;>rfl) hk')
  have hw:=hf.wanted (ops:=ops) (o:=o) h1 hdom;have hsel:∀ cs b,o.op≠.select cs b:=fun cs b e=>by rw [e] at h3;cases h3
  have hdef:∀ c,o.op≠.defer c:=fun c e=>by rw [e] at h3;cases h3
  unfold wpListIn;rw [hw];simp only [zAH] at hs;split
  · rename_i hw';rw [if_pos hw'] at hs;refine (Runs.congr (σ':=a.eval) hsel hdef ?_ hs).wpIn next
    intro x hx;refine (hf.eval x fun t e=>h1 t ?_).symm;subst e;exact List.mem_append_left _ (zCN (by simpa using hx))
  · rename_i hw';rw [if_neg hw'] at hs;exact ⟨fun _ _=>trivial,next _ _ hs⟩
abbrev Post:=Exit→Env→List Deferred→World→Prop
def lift (N:Nat) (Q:Post):Exit→Act→World→Prop:=fun e a w=>∃ ρ,Fr N a ρ∧Q e ρ a.defers w
def WPE (P:Program) (r:Option Nat) (N:Nat) (c:Code) (Q:Post) (δ:List Deferred) (ρ:Env) (w:World):Prop :=
 ∀ a,Fr N a ρ→a.defers=δ→c.wpIn (W r) 0 P (lift N Q) a w
def okReg (N:Nat) (ops:List Oper) (ρ:Env):Bool:=(dom ρ).all (fun t=>decide (t<N))&&okOps N ops ops (dom ρ)
def seqQ (K:Env→List Deferred→World→Prop) (Q:Post):Post:=fun e ρ δ w=>match e with | .normal=>K ρ δ w | e=>Q e ρ δ w
def zGr (id:Nat) (Q:Post):Post:=fun e ρ δ w=>match e with | .exit id'=>if id'=id then Q .normal ρ δ w else Q (.exit id') ρ δ w | e=>Q e ρ δ w
def loopQ (δ0:List Deferred) (J:Env→World→Prop) (Q:Post):Post:=fun e ρ δ w=>match e with | .normal=>δ=δ0∧J ρ w | e=>Q e ρ δ w
section posts
variable {K:Env→List Deferred→World→Prop} {Q:Post} {J:Env→World→Prop} {ρ:Env} {δ0:List Deferred} {id':Nat}
theorem zN (h:K ρ δ w):seqQ K Q .normal ρ δ w:=h
theorem zAE (h:Q (.exit id) ρ δ w):seqQ K Q (.exit id) ρ δ w:=h
theorem zY (h:Q .ret ρ δ w):seqQ K Q .ret ρ δ w:=h
theorem zT (h:Q .normal ρ δ w):zGr id Q .normal ρ δ w:=h
theorem zh (h:Q .ret ρ δ w):zGr id Q .ret ρ δ w:=h
theorem zP (h:Q .normal ρ δ w):zGr id Q (.exit id) ρ δ w:=by simp only [zGr,if_true];exact h
theorem zCY (hn:id'≠id) (h:Q (.exit id') ρ δ w):zGr id Q (.exit id') ρ δ w:=by simp only [zGr,if_neg hn];exact h
theorem zV (h:δ=δ0∧J ρ w):loopQ δ0 J Q .normal ρ δ w:=h
theorem zv (h:Q (.exit id) ρ δ w):loopQ δ0 J Q (.exit id) ρ δ w:=h
theorem zAr (h:Q .ret ρ δ w):loopQ δ0 J Q .ret ρ δ w:=h
end posts
section rules
variable {Q:Post} {ρ:Env}
theorem zMc {c:Code} {Q':Post} (h:WPE P r N c Q δ ρ w) (hq:∀ e ρ δ w,Q e ρ δ w→Q' e ρ δ w):WPE P r N c Q' δ ρ w :=
 fun a hf hd=>wpIn_mono (h a hf hd) (fun _ _ _ ⟨ρ,hf,hq'⟩=>⟨ρ,hf,hq _ _ _ _ hq'⟩)
theorem zMb {c:Code} (ρ':Env) (hk:∀ t∈dom ρ',t∈dom ρ∧look1 ρ' t=look1 ρ t) (h:WPE P r N c Q δ ρ' w):WPE P r N c Q δ ρ w :=
 fun a hf hd=>h a (hf.keep hk) hd
theorem zA {x y:Code} (h:WPE P r N x (seqQ (fun ρ δ w=>WPE P r N y Q δ ρ w) Q) δ ρ w):WPE P r N (.seq x y) Q δ ρ w:=fun a hf hd=>by
 refine wpIn_seq (wpIn_mono (h a hf hd) ?_);rintro e a w ⟨ρ,hf,hq⟩;cases e with
 | normal=>exact hq a hf rfl
 | _=>exact ⟨ρ,hf,hq⟩
theorem zJN (hok:okReg N ops ρ=true) (h:zAH P r ops ops ρ w (fun ρ' w'=>Q .normal ρ' δ w')):WPE P r N (.region id ops.toArray false) Q δ ρ w:=fun a hf hd=>by
 simp only [okReg,Bool.and_eq_true,List.all_eq_true,decide_eq_true_eq] at hok;refine wpIn_region_lit (zEe ops ρ a w _ hok.2 hok.1 hf h ?_);intro a' ρ' w' hf' hde hq;exact ⟨ρ',hf',by rw [hde,hd];exact hq⟩
theorem zDc {y:Code} (hok:okReg N ops ρ=true)
 (h:∀ K:Env→World→Prop,(∀ ρ' w',WPE P r N y Q δ ρ' w'→K ρ' w')→zAH P r ops ops ρ w K):WPE P r N (.seq (.region id ops.toArray false) y) Q δ ρ w :=
 zA (zJN hok (h _ fun _ _ h=>h))
theorem zHT {c:Operand} {x y:Code} (b:Bool) (hp:(match c with | .tmp t=>(dom ρ).contains t | _=>true)=true) (hc:look ρ c = .bool b) (h:WPE P r N (if b then x else y) Q δ ρ w):WPE P r N (.cond c x y) Q δ ρ w:=fun a hf hd=>by
 refine wpIn_cond (t:=b) ?_ (h a hf hd);rw [hf.eval c,hc];intro t e;subst e;simpa using hp
theorem zz (h:Q .normal ρ δ w):WPE P r N .skip Q δ ρ w:=fun a hf hd=>wpIn_skip ⟨ρ,hf,by rw [hd];exact h⟩
theorem zE (h:Q .ret ρ δ w):WPE P r N .ret Q δ ρ w:=fun a hf hd=>wpIn_ret ⟨ρ,hf,by rw [hd];exact h⟩
theorem zi (h:Q (.exit id) ρ δ w):WPE P r N (.exit id) Q δ ρ w:=fun a hf hd=>wpIn_exit ⟨ρ,hf,by rw [hd];exact h⟩
theorem wpe_goto {l:Nat} (h:Q (.goto l) ρ δ w):WPE P r N (.goto l) Q δ ρ w:=fun a hf hd=>wpIn_goto ⟨ρ,hf,by rw [hd];exact h⟩
theorem wpe_label {l:Nat} (h:Q .normal ρ δ w):WPE P r N (.label l) Q δ ρ w:=fun a hf hd=>wpIn_label ⟨ρ,hf,by rw [hd];exact h⟩
theorem zG {c:Code} (h:WPE P r N c (zGr id Q) δ ρ w):WPE P r N (.block id c) Q δ ρ w:=fun a hf hd=>by
 refine wpIn_block (wpIn_mono (h a hf hd) ?_);rintro e a w ⟨ρ,hf,hq⟩;cases e with
 | exit id' =>
  simp only [Exit.inBlock,zGr] at hq ⊢;split
  · rename_i e;rw [if_pos e] at hq;exact ⟨ρ,hf,hq⟩
  · rename_i e;rw [if_neg e] at hq;exact ⟨ρ,hf,hq⟩
 | _=>exact ⟨ρ,hf,hq⟩
theorem zo {X:Type} {c:Code} (I:X→Env→World→Prop) (μ:X→Nat) (x₀:X) (h₀:I x₀ ρ w)
 (round:∀ x ρ w,I x ρ w→WPE P r N c (loopQ δ (fun ρ' w'=>∃ x',I x' ρ' w'∧μ x'<μ x) Q) δ ρ w):WPE P r N (.loop c) Q δ ρ w:=fun a hf hd=>by
 intro b k cs hro hb hr
 have key:∀ j x a ρ w,μ x=j→Fr N a ρ→a.defers=δ→I x ρ w →
  ∃ e a' w',lift N Q e a' w'∧ArrivesIn (Machine.fenced P (W r)) P (lone (b.atR a (.code c :: .inLoop c :: k)) cs w) b k cs e a' w':=by
  intro j
  induction j using Nat.strongRecOn with
  | _ j ih =>
   intro x a ρ w hn hf hd hI;obtain ⟨e,a₁,w₁,⟨ρ₁,hf₁,hq⟩,harr⟩:=round x ρ w hI a hf hd b (.inLoop c :: k) cs hro hb hr;cases e with
   | normal =>
    obtain ⟨hd₁,x₁,hI₁,hlt⟩:=hq;obtain ⟨e₂,a₂,w₂,hq₂,harr₂⟩:=ih (μ x₁) (hn ▸ hlt) x₁ a₁ ρ₁ w₁ rfl hf₁ hd₁ hI₁;exact ⟨e₂,a₂,w₂,hq₂,.of_steps (StepsIn.trans harr (.one (fenced_calm hb hr rfl) stepR_inLoop)) harr₂⟩
   | exit id=>exact ⟨_,a₁,w₁,⟨ρ₁,hf₁,hq⟩,.pass (x := .inLoop c) rfl (fun _ _ => .inl (by simp)) harr⟩
   | goto l=>exact ⟨_,a₁,w₁,⟨ρ₁,hf₁,hq⟩,.pass (x := .inLoop c) rfl (fun _ _ => .inl (by simp)) harr⟩
   | ret=>exact ⟨_,a₁,w₁,⟨ρ₁,hf₁,hq⟩,.pass (x := .inLoop c) rfl (fun _ _ => .inl (by simp)) harr⟩
   | panic ch=>exact ⟨_,a₁,w₁,⟨ρ₁,hf₁,hq⟩,.pass (x := .inLoop c) rfl (fun _ _ => .inl (by simp)) harr⟩
   | outgrown=>exact ⟨_,a₁,w₁,⟨ρ₁,hf₁,hq⟩,.pass (x := .inLoop c) rfl (fun _ _ => .inl (by simp)) harr⟩
 obtain ⟨e,a',w',hq,harr⟩:=key _ x₀ a ρ w rfl hf hd h₀;exact ⟨e,a',w',hq,.of_steps (.one (fenced_calm hb hr rfl) stepR_loop) harr⟩
end rules
def Ext (w w':World):Prop:=Below w.heap.size w w'
theorem Ext.refl (w:World):Ext w w:=Below.refl _ _
theorem Ext.trans {a b c:World} (h:Ext a b) (k:Ext b c):Ext a c:=Below.trans h (Below.mono k h.size)
theorem Ext.size {a b:World} (h:Ext a b):a.heap.size≤b.heap.size:=Below.size h
theorem Ext.heap {a b:World} (h:Ext a b) {o:Obj} (hk:a.heap[k]? = some o):b.heap[k]? = some o:=by
 rw [Below.block h k];exact hk;exact (Array.getElem?_eq_some_iff.1 hk).1
theorem Ext.push (o:Obj):Ext w { w with heap:=w.heap.push o } :=
 ⟨rfl,rfl,rfl,by simp,fun k hk=>by show (w.heap.push o)[k]? = _;rw [Array.getElem?_push,if_neg (by omega)]⟩
theorem Ext.drawn (n:Nat):Ext w { w with drawn:=n }:=⟨rfl,rfl,rfl,Nat.le_refl _,fun _ _=>rfl⟩
def Ret (P:Program) (f:FuncId) (args:Array Value) (w:World) (Φ:Value→World→Prop):Prop :=
 Calls P f args w fun e w'=>∃ v,e = .returned v∧Ext w w'∧Φ v w'
theorem Ret.mono {Φ':Value→World→Prop} (h:Ret P f args w Φ) (hm:∀ v w',Ext w w'→Φ v w'→Φ' v w'):Ret P f args w Φ' :=
 Calls.mono h fun _ _ ⟨v,e,hx,hv⟩=>⟨v,e,hx,hm _ _ hx hv⟩
def args0:Nat→List Value→Env
 | _,[]=>[]
 | i,v :: vs=>(i,v) :: args0 (i+1) vs
def Gives (P:Program) (fn:Func) (N:Nat) (ρ:Env) (w:World) (v:Value):Prop:=∀ a,Fr N a ρ→(results fn a.tmps).run P w = .ok v w
theorem zKM:∀ (vs:List Value) (i t:Nat),t∈dom (args0 i vs)↔i≤t∧t<i+vs.length
 | [],i,t=>by simp [args0,dom]
 | v :: vs,i,t=>by
  have:=zKM vs (i+1) t;simp only [args0,dom,List.map_cons,List.mem_cons,List.length_cons] at this ⊢;rw [this];omega
theorem zIr:∀ (vs:List Value) (i t:Nat),i≤t→look1 (args0 i vs) t=vs.getD (t-i) undef
 | [],i,t,_=>by simp [args0,look1]
 | v :: vs,i,t,h=>by
  simp only [args0,look1];by_cases e:t=i
  · subst e;simp
  · rw [if_neg e,zIr vs (i+1) t (by omega)];have:t-i=(t-(i+1))+1:=by omega
    rw [this];simp
theorem zHF (fn:Func) (args:Array Value) (h:args.size≤fn.ntmps):Fr fn.ntmps { tmps:=args++Array.replicate (fn.ntmps-args.size) undef,defers:=[] } (args0 0 args.toList):=by
 refine ⟨by simp;omega,fun t ht => ?_⟩;have ht':=(zKM _ _ _).1 ht;rw [zIr _ _ _ (Nat.zero_le _)];have hlt:t<args.size:=by simpa using ht'.2
 simp only [Array.getD_eq_getD_getElem?];rw [Array.getElem?_append_left hlt];simp [hlt]
def funQ (J:Env→List Deferred→World→Prop):Post:=fun e ρ δ w=>match e with | .normal=>J ρ δ w | .ret=>J ρ δ w | _=>False
theorem zGw {J:Env→List Deferred→World→Prop} {ρ:Env} (h:J ρ δ w):funQ J .normal ρ δ w:=h
theorem zQ {J:Env→List Deferred→World→Prop} {ρ:Env} (h:J ρ δ w):funQ J .ret ρ δ w:=h
theorem ret_of_wpe {c:Code} (N:Nat)
 (hf:P.funcs[f]? = some fn) (hb:fn.body=some c) (hN:fn.ntmps=N) (hargs:args.size≤N)
 (h:WPE P none N c (funQ fun ρ δ w'=>δ=[]∧∃ v,Gives P fn N ρ w' v∧Ext w w'∧Φ v w') [] (args0 0 args.toList) w):Ret P f args w Φ:=by
 subst hN;refine callsW' (r:=none) (n:=0) (callsIn_of_wp hf hb trivial ?_);refine wpIn_mono (h _ (zHF fn args hargs) rfl) ?_;rintro e a w' ⟨ρ,hfr,hq⟩;cases e with
 | normal=>obtain ⟨hd,v,hg,hx,hv⟩:=hq;exact ⟨hd,v,hg a hfr,v,rfl,hx,hv⟩
 | ret=>obtain ⟨hd,v,hg,hx,hv⟩:=hq;exact ⟨hd,v,hg a hfr,v,rfl,hx,hv⟩
 | _=>exact hq.elim
section gives
variable {ρ:Env}
theorem zm (h:fn.results = #[.tmp t]) (hd:(dom ρ).contains t=true):Gives P fn N ρ w (look1 ρ t):=fun a hf=>by
 rw [results_tmp h,hf.at_ t (by simpa using hd)]
theorem zn {u:Nat} (h:fn.results = #[.tmp t,.tmp u]) (hd:(dom ρ).contains t=true) (hu:(dom ρ).contains u=true):Gives P fn N ρ w (.tuple #[look1 ρ t,look1 ρ u]):=fun a hf=>by
 rw [results_tmp2 h,hf.at_ t (by simpa using hd),hf.at_ u (by simpa using hu)]
theorem zBd (h:fn.results = #[]):Gives P fn N ρ w (.tuple #[]):=fun _ _=>results_none h _ _ _
end gives
theorem amap (f:α→β) (a:Array α):(a.toList.map f).toArray=a.map f:=by rw [← Array.toList_map,Array.toArray_toList]
def Blk (w:World) (b:Nat) (T:TypeId) (cs:List Value):Prop:=w.heap[b]? = some (.cells ⟨cs⟩ T (0,0))
theorem Blk.lt (h:Blk w b T cs):b<w.heap.size:=(Array.getElem?_eq_some_iff.1 h).1
theorem Blk.ext (h:Blk w b T cs) (hx:Ext w w'):Blk w' b T cs:=hx.heap h
theorem Blk.cell (h:Blk w b T cs) (o:Nat):w.cell? ⟨b,o,none⟩=cs[o]? := by
 unfold Blk at h;simp [World.cell?,h]
theorem Blk.inj (h:Blk w b T cs) (h':Blk w b T' cs'):T=T'∧cs=cs':=by
 unfold Blk at h h';rw [h] at h';simp at h';exact ⟨h'.2,h'.1⟩
structure Upd (b:Nat) (w w':World):Prop where
 os:w'.os=w.os
 tape:w'.tape=w.tape
 output:w'.output=w.output
 size:w'.heap.size=w.heap.size
 block:∀ k,k≠b→w'.heap[k]? = w.heap[k]?
 kind:∀ T cs,Blk w b T cs→∃ cs',Blk w' b T cs'
theorem Blk.upd (h:Blk w c T cs) (hu:Upd b w w') (hc:c≠b):Blk w' c T cs:=by
 unfold Blk at *;rw [hu.block c hc];exact h
theorem Ext.upd {w'':World} (h:Ext w w') (hu:Upd b w' w'') (hb:w.heap.size≤b):Ext w w'' :=
 Below.trans h ⟨hu.os,hu.tape,hu.output,by rw [hu.size];exact Nat.le_refl _,fun k hk=>hu.block k (by omega)⟩
def World.setBlk (w:World) (b:Nat) (T:TypeId) (cs:List Value):World:={ w with heap:=w.heap.setIfInBounds b (.cells ⟨cs⟩ T (0,0)) }
theorem zCx (T:TypeId) (cs:List Value) (h:b<w.heap.size):Blk (World.setBlk w b T cs) b T cs:=by
 simp [Blk,World.setBlk,h]
theorem zDt {cs0:List Value} (h:Blk w b T cs0) (cs:List Value):Upd b w (World.setBlk w b T cs) :=
 ⟨rfl,rfl,rfl,by simp [World.setBlk],fun k hk=>by simp [World.setBlk,Ne.symm hk],fun T' cs' h'=>by rw [← (h.inj h').1];exact ⟨cs,zCx T cs h.lt⟩⟩
theorem setCell_blk {o:Nat} (h:Blk w b T cs) (v:Value):w.setCell ⟨b,o,none⟩ v=World.setBlk w b T (cs.set o v):=by
 unfold Blk at h;have hlt:=(Array.getElem?_eq_some_iff.1 h).1;have hb:w.heap[b] = .cells ⟨cs⟩ T (0,0):=(Array.getElem?_eq_some_iff.1 h).2;simp only [World.setCell,World.setBlk];congr 1;apply Array.ext_getElem?;intro k;by_cases hk:b=k
 · subst hk;rw [Array.getElem?_modify,if_pos rfl,h];simp [hlt]
 · rw [Array.getElem?_modify,if_neg hk];simp [hk]
theorem setBlk_setBlk (w:World) (b:Nat) (T T':TypeId) (cs cs':List Value):World.setBlk (World.setBlk w b T cs) b T' cs'=World.setBlk w b T' cs':=by
 simp [World.setBlk]
def zAy (cs:List Value) (o:Nat):List Value→List Value
 | []=>cs
 | v :: vs=>zAy (cs.set o v) (o+1) vs
theorem zAh:∀ (vs cs:List Value) (o:Nat),(zAy cs o vs).length=cs.length
 | [],_,_=>rfl
 | v :: vs,cs,o=>by simp [zAy,zAh vs]
def zBl:Value→Bool | .agg _ | .tuple _=>false | _=>true
theorem run_store_blk {o:Nat} (h:Blk w b T cs) (ho:o<cs.length) (hv:zBl v=true) :
 (store ⟨b,o,none⟩ v).run P w = .ok () (World.setBlk w b T (cs.set o v)):=by
 have hc:w.cell? ⟨b,o,none⟩=some cs[o]:=by rw [h.cell];simp [ho]
 have hf:w.frozen? ⟨b,o,none⟩=false:=by unfold Blk at h;simp [World.frozen?,h]
 have hv':v.oneCell'=true:=by cases v<;>first | rfl | (simp [zBl] at hv)
 rw [run_store P w _ v .plain hv',hc];simp only [hf,Bool.false_eq_true,if_false];rw [setCell_blk h]
theorem zAk (b o i:Nat):(⟨b,o,none⟩:Addr).add i=⟨b,o+i,none⟩:=by
 unfold Addr.add;split
 · rename_i h;subst h;rfl
 · rfl
theorem zBJ {P:Program} {b o:Nat} {T:TypeId}:∀ (vs:List Value) (i:Nat) (w:World) (cs:List Value),Blk w b T cs→o+i+vs.length≤cs.length→vs.all zBl=true →
 (storeCells ⟨b,o,none⟩ vs i).run P w = .ok () (if vs=[] then w else World.setBlk w b T (zAy cs (o+i) vs))
 | [],i,w,cs,_,_,_=>by simp [storeCells]
 | v :: vs,i,w,cs,h,hl,hv=>by
  simp only [List.all_cons,Bool.and_eq_true] at hv;simp only [List.length_cons] at hl;have h1:Blk (World.setBlk w b T (cs.set (o+i) v)) b T (cs.set (o+i) v):=zCx _ _ h.lt;have ih:=zBJ (P:=P) (o:=o) vs (i+1) _ _ h1 (by simp;omega) hv.2;simp only [storeCells,Sem.run_bind,zAk,run_store_blk h (show o+i<cs.length by omega) hv.1,Result.andThen_ok,ih,reduceCtorEq,if_false];cases vs with
  | nil=>simp [zAy]
  | cons v' vs'=>simp only [reduceCtorEq,if_false,setBlk_setBlk,zAy];rfl
def Plain (P:Program) (T:TypeId):Prop:=(match P.underlying T with | some (.struct _) | some (.array _ _)=>false | some _=>true | none=>false)=true∧(P.info? T).map (·.size)=some 1
def Aggr (P:Program) (T:TypeId) (n:Nat):Prop:=(match P.underlying T with | some (.struct _) | some (.array _ _)=>true | _=>false)=true∧(P.info? T).map (·.size)=some n
theorem Plain.isAgg (h:Plain P T) (w:World):(isAgg T).run P w = .ok false w:=by
 obtain ⟨h,_⟩:=h;cases hu:P.underlying T with
 | none=>simp [hu] at h
 | some d=>cases d<;>first | (simp [Go.isAgg,run_underlying hu];done) | (simp [hu] at h)
theorem Aggr.isAgg (h:Aggr P T n) (w:World):(isAgg T).run P w = .ok true w:=by
 obtain ⟨h,_⟩:=h;cases hu:P.underlying T with
 | none=>simp [hu] at h
 | some d=>cases d<;>first | (simp [Go.isAgg,run_underlying hu];done) | (simp [hu] at h)
theorem run_sizeOf' (h:(P.info? T).map (·.size)=some n) (w:World):(sizeOf T).run P w = .ok n w:=by
 cases hi:P.info? T with
 | none=>simp [hi] at h
 | some i=>simp [hi] at h;simp [sizeOf,typeInfo,hi,h]
theorem run_loadVar_plain (h:Plain P T) {o:Nat} (hb:Blk w b T' cs) (hv:cs[o]? = some v) :
 (loadVar T ⟨b,o,none⟩).run P w = .ok v w:=by
 simp [loadVar,h.isAgg,hb.cell,hv]
theorem zCG (h:Aggr P T n) {o:Nat} (hb:Blk w b T' cs) (hn:o+n≤cs.length) :
 (loadVar T ⟨b,o,none⟩).run P w = .ok (.agg ((cs.drop o).take n).toArray) w:=by
 have hl:=run_loadCells_list (P:=P) w ⟨b,o,none⟩ ((cs.drop o).take n) (fun j v hj=>by
  rw [zAk,hb.cell];rw [List.getElem?_take] at hj;split at hj
  · rw [List.getElem?_drop] at hj;exact hj
  · cases hj)
 have hlen:((cs.drop o).take n).length=n:=by simp;omega
 rw [hlen] at hl;simp [loadVar,h.isAgg,run_sizeOf' h.2,hl]
theorem run_storeVar_blk (h:(P.info? T).map (·.size)=some n) {o:Nat} (hb:Blk w b T' cs) 
 (hv:v.cells.size=n) (hn:o+n≤cs.length) (hn0:0<n) (hk:v.cells.toList.all zBl=true) :
 (storeVar T ⟨b,o,none⟩ v).run P w = .ok () (World.setBlk w b T' (zAy cs o v.cells.toList)):=by
 have hne:v.cells.toList≠[]:=fun e=>by
  have h2:v.cells.size=0:=by rw [← Array.length_toList,e];rfl
  omega
 have:=zBJ (P:=P) (b:=b) (o:=o) v.cells.toList 0 w cs hb (by simp;omega) hk;rw [if_neg hne] at this;simp [storeVar,run_sizeOf' h,hv,this]
section laws
variable {K:Value→World→Prop} {d:Option Tmp}
def CallK (P:Program) (f:FuncId) (args:Array Value) (w:World) (K:Value→World→Prop):Prop :=
 Calls P f args w (fun e w'=>∃ v,e = .returned v∧K v w')
theorem CallK.of_ret (h:Ret P f args w Φ) (hk:∀ v w',Ext w w'→Φ v w'→K v w'):CallK P f args w K :=
 Calls.mono h fun _ _ ⟨v,e,hx,hv⟩=>⟨v,e,hk v _ hx hv⟩
theorem zl {o:Oper} (hd:∀ c,o.op≠.defer c) (h:(execOp σ o).run P w = .ok (.value v) w) (hk:K v w):Runs P r o σ w K:=by
 unfold Runs;rw [zBu hd,h];exact hk
theorem zAb {o:Oper} (hd:∀ c,o.op≠.defer c) (h:(execOp σ o).run P w = .ok (.value v) w') (hk:K v w'):Runs P r o σ w K:=by
 unfold Runs;rw [zBu hd,h];exact hk
theorem zGk {o:Oper} (hd:∀ c,o.op≠.defer c) (h:(execOp σ o).run P w = .ok .skip w') (hk:K undef w'):Runs P r o σ w K:=by
 unfold Runs;rw [zBu hd,h];exact hk
theorem zF (hk:K (σ x) w):Runs P r ⟨d,.move x,ty,pos,af,g⟩ σ w K :=
 zl (fun _ e=>by cases e) rfl hk
theorem zp (hk:K (σ x) w):Runs P r ⟨d,.assign x,ty,pos,af,g⟩ σ w K :=
 zl (fun _ e=>by cases e) rfl hk
theorem zAd {c:Operand} {b:Bool} (hc:σ c = .bool b) (hk:K (if b then σ x else σ y) w):Runs P r ⟨d,.pick c x y,ty,pos,af,g⟩ σ w K :=
 zl (fun _ e=>by cases e) (by simp only [execOp,hc];cases b<;>rfl) hk
theorem zBK {t:Operand} (ht:σ t = .tuple vs) (hv:vs[i]? = some v) (hk:K v w):Runs P r ⟨d,.extract t i,ty,pos,af,g⟩ σ w K :=
 zl (fun _ e=>by cases e) (by simp [execOp,Instr.extract,ht,hv]) hk
theorem zBL {fn:Fn} {a b:Array Operand} (hk:K (.func fn (a.toList.map σ).toArray (b.toList.map σ).toArray) w):Runs P r ⟨d,.makeFunc fn a b,ty,pos,af,g⟩ σ w K :=
 zl (v := .func fn (a.toList.map σ).toArray (b.toList.map σ).toArray) (fun _ e=>by cases e) (by rw [amap,amap];rfl) hk
theorem zAF {t:TypeId} {b:Bool} (hx:σ x = .bool b) (hk:K (.bool !b) w):Runs P r ⟨d,.unOp .not t x,ty,pos,af,g⟩ σ w K :=
 zl (fun _ e=>by cases e) (by simp [execOp,Op.unary,hx]) hk
theorem zJn {t:TypeId} {k:IntKind} {n:Int} (hx:σ x = .int k n) (hk:K (.int k (k.wrap (0-n))) w):Runs P r ⟨d,.unOp .neg t x,ty,pos,af,g⟩ σ w K :=
 zl (fun _ e=>by cases e) (by simp [execOp,Op.unary,Op.intArith,hx]) hk
def ibin:BinOp→IntKind→Int→Int→Option Value
 | .add,k,a,b=>some (.int k (k.wrap (a+b)))
 | .sub,k,a,b=>some (.int k (k.wrap (a-b)))
 | .mul,k,a,b=>some (.int k (k.wrap (a*b)))
 | .eql,_,a,b=>some (.bool (a==b))
 | .neq,_,a,b=>some (.bool (a != b))
 | .lss,_,a,b=>some (.bool (a<b))
 | .leq,_,a,b=>some (.bool (a≤b))
 | .gtr,_,a,b=>some (.bool (a>b))
 | .geq,_,a,b=>some (.bool (a≥b))
 | .and,k,a,b=>some (.int k (bits .and k a b))
 | .or,k,a,b=>some (.int k (bits .or k a b))
 | .xor,k,a,b=>some (.int k (bits .xor k a b))
 | _,_,_,_=>none
theorem zH {op:BinOp} {t:TypeId} {k:IntKind} {a b:Int} (hx:σ x = .int k a) (hy:σ y = .int k b) (hv:ibin op k a b=some v) (hk:K v w):Runs P r ⟨d,.binOp op t x y t',ty,pos,af,g⟩ σ w K:=by
 refine zl (fun _ e=>by cases e) ?_ hk;have hg:eqGuard op t x y (.int k a) (.int k b)=pure ():=by cases op<;>rfl
 simp only [execOp,hx,hy,hg];cases op<;>simp only [ibin,reduceCtorEq,Option.some.injEq] at hv<;>subst hv<;>simp [binOp,Op.intArith,Op.intCmp,Op.intBits,bits]
theorem zFH {t:TypeId} {k:IntKind} {a b:Int} (hx:σ x = .int k a) (hy:σ y = .int k b) (hb:b≠0) (hk:K (.int k (k.wrap (a.tdiv b))) w):Runs P r ⟨d,.binOp .quo t x y t',ty,pos,af,g⟩ σ w K:=by
 refine zl (fun _ e=>by cases e) ?_ hk;have hg:eqGuard .quo t x y (.int k a) (.int k b)=pure ():=rfl;simp [execOp,hx,hy,hg,binOp,Op.intDiv,hb]
theorem zDW {t:TypeId} {k:IntKind} {a b:Int} (hx:σ x = .int k a) (hy:σ y = .int k b) (hb:b≠0) (hk:K (.int k (a.tmod b)) w):Runs P r ⟨d,.binOp .rem t x y t',ty,pos,af,g⟩ σ w K:=by
 refine zl (fun _ e=>by cases e) ?_ hk;have hg:eqGuard .rem t x y (.int k a) (.int k b)=pure ():=rfl;simp [execOp,hx,hy,hg,binOp,Op.intDiv,hb]
theorem zHP {t:TypeId} {k:IntKind} {a b:Int} (hx:σ x = .int k a) (hy:σ y = .int k' b) (hb:0≤b) (hk:K (.int k (k.wrap (a*2^(min b.toNat k.bits)))) w):Runs P r ⟨d,.binOp .shl t x y t',ty,pos,af,g⟩ σ w K:=by
 refine zl (fun _ e=>by cases e) ?_ hk;have hg:eqGuard .shl t x y (.int k a) (.int k' b)=pure ():=rfl;have hb':¬ b<0:=by omega
 simp [execOp,hx,hy,hg,binOp,Op.shift,hb']
theorem runs_shr {t:TypeId} {k:IntKind} {a b:Int} (hx:σ x = .int k a) (hy:σ y = .int k' b) (hb:0≤b) (hk:K (.int k (a.fdiv (2^(min b.toNat k.bits)))) w):Runs P r ⟨d,.binOp .shr t x y t',ty,pos,af,g⟩ σ w K:=by
 refine zl (fun _ e=>by cases e) ?_ hk;have hg:eqGuard .shr t x y (.int k a) (.int k' b)=pure ():=rfl;have hb':¬ b<0:=by omega
 simp [execOp,hx,hy,hg,binOp,Op.shift,hb']
theorem zK (hz:((P.info? T).bind (·.zero))=some z)
 (hk:∀ b w',b=w.heap.size→Ext w w'→Blk w' b T z.cells.toList→w'.heap.size=b+1→K (.pointer (some ⟨b,0,none⟩)) w'):Runs P r ⟨d,.alloc T,ty,pos,af,g⟩ σ w K:=by
 refine zAb (fun _ e=>by cases e) (v := .pointer (some ⟨w.heap.size,0,none⟩)) (w':={ w with heap:=w.heap.push (.cells z.cells T) }) ?_ ?_
 · cases hi:P.info? T with
   | none=>simp [hi] at hz
   | some i=>simp [hi] at hz;simp [execOp,Instr.alloc,zeroValue,typeInfo,hi,hz,newVar,newRow]
 · refine hk _ _ rfl (Ext.push _) ?_ (by simp);simp [Blk]
theorem zk 
 (hk:∀ b w',b=w.heap.size→Ext w w'→Blk w' b T (σ x).cells.toList→w'.heap.size=b+1→K (.pointer (some ⟨b,0,none⟩)) w'):Runs P r ⟨d,.box T x,ty,pos,af,g⟩ σ w K:=by
 refine zAb (fun _ e=>by cases e) (v := .pointer (some ⟨w.heap.size,0,none⟩)) (w':={ w with heap:=w.heap.push (.cells (σ x).cells T) }) ?_ ?_
 · simp [execOp,Instr.box,newVar,newRow]
 · refine hk _ _ rfl (Ext.push _) ?_ (by simp);simp [Blk]
theorem zD {o:Nat} (hT:Plain P T) (hx:σ x = .pointer (some ⟨b,o,none⟩)) (hb:Blk w b T' cs) (hv:cs[o]? = some v) (hk:K v w) :
 Runs P r ⟨d,.load T x,ty,pos,af,g⟩ σ w K :=
 zl (fun _ e=>by cases e) (by simp [execOp,Instr.loadAt,Instr.sureAddr,hx,run_loadVar_plain hT hb hv]) hk
theorem zW {o:Nat} (hT:Aggr P T n) (hx:σ x = .pointer (some ⟨b,o,none⟩)) (hb:Blk w b T' cs) (hn:o+n≤cs.length) (hk:K (.agg ((cs.drop o).take n).toArray) w) :
 Runs P r ⟨d,.load T x,ty,pos,af,g⟩ σ w K :=
 zl (fun _ e=>by cases e) (by simp [execOp,Instr.loadAt,Instr.sureAddr,hx,zCG hT hb hn]) hk
theorem zZ {o:Nat} (hT:(P.info? T).map (·.size)=some n) (hx:σ x = .pointer (some ⟨b,o,none⟩)) (hb:Blk w b T' cs)
 (hv:(σ y).cells.size=n) (hn:o+n≤cs.length) (hn0:0<n) (hc:(σ y).cells.toList.all zBl=true)
 (hk:∀ w',Upd b w w'→Blk w' b T' (zAy cs o (σ y).cells.toList)→K undef w'):Runs P r ⟨d,.store T x y,ty,pos,af,g⟩ σ w K:=by
 refine zGk (fun _ e=>by cases e) (w':=World.setBlk w b T' (zAy cs o (σ y).cells.toList)) ?_ (hk _ (zDt hb _) (zCx _ _ hb.lt));simp [execOp,Instr.storeAt,Instr.sureAddr,hx,run_storeVar_blk hT hb hv hn hn0 hc]
def zt (P:Program) (S f off:Nat):Prop :=
 (match P.underlying S with | some (.struct fs)=>(match fs[f]? with | some fd=>decide (fd.offset=off)&&(match P.info? fd.type with | some i=>decide (i.size≠0) | none=>false) | none=>false) | _=>false)=true
theorem zB {S f off:Nat} {o:Nat} (hf:zt P S f off) (hx:σ x = .pointer (some ⟨b,o,none⟩)) (hk:K (.pointer (some ⟨b,o+off,none⟩)) w) :
 Runs P r ⟨d,.fieldAddr S x f,ty,pos,af,g⟩ σ w K:=by
 refine zl (fun _ e=>by cases e) ?_ hk;unfold zt at hf;cases hu:P.underlying S with
 | none=>simp [hu] at hf
 | some ds =>
  cases ds<;>try (simp [hu] at hf;done)
  rename_i fs;cases hfd:fs[f]? with
  | none=>simp [hu,hfd] at hf
  | some fd =>
   cases hi:P.info? fd.type with
   | none=>simp [hu,hfd,hi] at hf
   | some i =>
    simp [hu,hfd,hi] at hf;obtain ⟨h1,h2⟩:=hf;simp [execOp,Instr.fieldAt,run_underlying hu,hfd,hx,Instr.sureAddr,fieldPlace,sizeOf,typeInfo,hi,h2,zAk,h1]
def zAZ (P:Program) (T E n:Nat):Prop:=P.underlying T=some (.slice E)∧(P.info? E).map (·.size)=some n
theorem zO {T:Nat} {i:Operand} {o:Nat} {k:IntKind} {ix:Int} (hT:zAZ P T E n) (hx:σ x = .slice (some ⟨b,o,none⟩) len cap) (hi:σ i = .int k ix) (h0:0≤ix) (h1:ix<len)
 (hk:K (.pointer (some ⟨b,o+ix.toNat*n,none⟩)) w):Runs P r ⟨d,.indexAddr T x i,ty,pos,af,g⟩ σ w K:=by
 refine zl (fun _ e=>by cases e) ?_ hk;simp [execOp,Instr.indexAt,run_underlying hT.1,hx,hi,asIntOf,h0,h1,run_sizeOf' hT.2,zAk]
theorem zJ {T:Nat} (hT:zAZ P T E n) (hx:σ x = .slice p len cap) (hk:K (.int .i64 len) w) :
 Runs P r ⟨d,.call { callee := .builtin .len,args := #[x],argTypes := #[T] },ty,pos,af,g⟩ σ w K:=by
 refine zl (fun _ e=>by cases e) ?_ hk;simp [execOp,resolve,hx,invoke,builtin,Builtin.len_,run_underlying hT.1,goInt]
theorem runs_lenString {T:Nat} {s:ByteArray} (hT:P.underlying T=some .string) (hx:σ x = .string s) (hk:K (.int .i64 s.size) w) :
 Runs P r ⟨d,.call { callee := .builtin .len,args := #[x],argTypes := #[T] },ty,pos,af,g⟩ σ w K:=by
 refine zl (fun _ e=>by cases e) ?_ hk;simp [execOp,resolve,hx,invoke,builtin,Builtin.len_,run_underlying hT,goInt]
theorem zBa {k:IntKind} {i:Int} {y:Nat} {code:BoundsCode} (h0:0≤i) (h1:i≤y) (w:World):(Instr.sliceBound (.int k i) y code).run P w = .ok i.toNat w:=by
 simp [Instr.sliceBound,asIntOf,h0,h1]
theorem zCP {T:Nat} {hi:Operand} {k:IntKind} {h:Int} (hT:zAZ P T E n) (hx:σ x = .slice p len cap) (hh:σ hi = .int k h) (h0:0≤h) (h1:h≤cap)
 (hk:K (.slice p h.toNat cap) w):Runs P r ⟨d,.slice T x none (some hi) none,ty,pos,af,g⟩ σ w K:=by
 refine zl (fun _ e=>by cases e) ?_ hk;have ha:(if cap=0 then p else p.map (fun a=>a.add (0*n)))=p:=by
  split
  · rfl
  · cases p with
    | none=>rfl
    | some a=>simp [Addr.add]
 simp only [execOp,Instr.sliceAt,Option.map_none,Option.map_some,hx,hh];simp only [Sem.run_bind,run_underlying hT.1,Result.andThen_ok,Instr.slice,Instr.sliceBounds,Sem.run_pure,zBa h0 h1,run_sizeOf' hT.2];simp only [ha,Nat.sub_zero]
theorem zEp {T:Nat} {lo:Operand} {k:IntKind} {l:Int} (hT:zAZ P T E n) (hx:σ x = .slice p len cap) (hl:σ lo = .int k l) (h0:0≤l) (h1:l≤len)
 (hk:K (.slice (if cap=l.toNat then p else p.map (fun a=>a.add (l.toNat*n))) (len-l.toNat) (cap-l.toNat)) w):Runs P r ⟨d,.slice T x (some lo) none none,ty,pos,af,g⟩ σ w K:=by
 refine zl (fun _ e=>by cases e) ?_ hk;simp only [execOp,Instr.sliceAt,Option.map_none,Option.map_some,hx,hl];simp only [Sem.run_bind,run_underlying hT.1,Result.andThen_ok,Instr.slice,Instr.sliceBounds,Sem.run_pure,zBa h0 h1,run_sizeOf' hT.2]
theorem runs_sliceLoHi {T:Nat} {lo hi:Operand} {k:IntKind} {l h:Int} (hT:zAZ P T E n) (hx:σ x = .slice p len cap) (hl:σ lo = .int k l) (hh:σ hi = .int k' h) (h0:0≤l) (h1:l≤h) (h2:h≤cap)
 (hk:K (.slice (if cap=l.toNat then p else p.map (fun a=>a.add (l.toNat*n))) (h.toNat-l.toNat) (cap-l.toNat)) w):Runs P r ⟨d,.slice T x (some lo) (some hi) none,ty,pos,af,g⟩ σ w K:=by
 refine zl (fun _ e=>by cases e) ?_ hk;simp only [execOp,Instr.sliceAt,Option.map_none,Option.map_some,hx,hl,hh];simp only [Sem.run_bind,run_underlying hT.1,Result.andThen_ok,Instr.slice,Instr.sliceBounds,Sem.run_pure,zBa (show 0≤h by omega) h2,zBa h0 (show l≤(h.toNat:Int) by omega),run_sizeOf' hT.2]
theorem zAg {T:Nat} {k:IntKind} {len:Int} (hT:P.underlying T=some (.slice E)) (hi:(P.info? E).map (fun i=>(i.zero,i.size,i.bytes))=some (some z,n,bytes)) (hz:z.cells.size=n)
 (hx:σ x = .int k len) (hy:σ y = .int k' len) (h0:0≤len) (h1:len<9223372036854775808) (h2:bytes*len≤281474976710656)
 (hk:∀ b w',b=w.heap.size→Ext w w'→Blk w' b E ((List.replicate len.toNat z.cells.toList).flatten)→w'.heap.size=b+1→K (.slice (some ⟨b,0,none⟩) len.toNat len.toNat) w'):Runs P r ⟨d,.makeSlice T x y,ty,pos,af,g⟩ σ w K:=by
 cases hie:P.info? E with
 | none=>simp [hie] at hi
 | some ie =>
  simp [hie] at hi;obtain ⟨e1,e2,e3⟩:=hi;have hw:IntKind.i64.wrap len=len:=by
   have:len%18446744073709551616=len:=by omega
   simp [IntKind.wrap,IntKind.bits,IntKind.signed,this];omega
  have hcells:(if len.toNat*n=0 then (#[]:Array Value) else z.cells)=(if len.toNat*n=0 then #[] else z.cells):=rfl;have hflat:((Array.range (len.toNat*n)).map fun i=>((if len.toNat*n=0 then (#[]:Array Value) else z.cells)[i%(if len.toNat*n=0 then (#[]:Array Value) else z.cells).size]!))=⟨(List.replicate len.toNat z.cells.toList).flatten⟩:=by
   by_cases hn:len.toNat*n=0
   · simp only [hn,if_true];rcases Nat.mul_eq_zero.1 hn with h | h
     · simp [h]
     · have:z.cells.toList=[]:=by
        have:z.cells.toList.length=0:=by simp [hz,h]
        exact List.eq_nil_of_length_eq_zero this
       simp [this]
   · rw [if_neg hn];apply Array.ext';simp only [Array.toList_map,Array.toList_range];have key:∀ (m:Nat) (l:List Value),0<l.length→(List.range (m*l.length)).map (fun i=>l[i%l.length]!)=(List.replicate m l).flatten:=by
      intro m l hl
      induction m with
      | zero=>simp
      | succ m ih =>
       rw [List.replicate_succ',List.flatten_append,← ih,Nat.succ_mul,List.range_add,List.map_append,List.map_map];congr 1;simp only [List.flatten_cons,List.flatten_nil,List.append_nil];apply List.ext_getElem?;intro j;simp only [List.getElem?_map];by_cases hj:j<l.length
       · simp [hj,Nat.mod_eq_of_lt hj]
       · simp [hj]
     have h0n:0<n:=by
      rcases Nat.eq_zero_or_pos n with h | h
      · simp [h] at hn
      · exact h
     have:=key len.toNat z.cells.toList (by simpa [hz] using h0n);simp only [Array.length_toList,hz] at this;rw [← this,hz];apply List.map_congr_left;intro i _;simp [getElem!_def]
  refine zAb (fun _ e=>by cases e) (v := .slice (some ⟨w.heap.size,0,none⟩) len.toNat len.toNat) (w':={ w with heap:=w.heap.push (.cells ⟨(List.replicate len.toNat z.cells.toList).flatten⟩ E) }) ?_ ?_
  · have hl0:¬ len<0:=by omega
    have hb:¬ ((ie.bytes:Int)*len>281474976710656):=by rw [e3];omega
    simp only [execOp,Instr.makeSlice,hx,hy];simp [run_underlying hT,asInt,asIntOf,typeInfo,hie,hw,hl0,sizeOf,e2];have hb':¬ 281474976710656<(ie.bytes:Int)*len:=by rw [e3];omega
    rw [if_neg hb',← hflat];by_cases hn:len.toNat*n=0
    · rw [if_pos hn];simp [hn,newRow]
    · rw [if_neg hn];simp [hn,zeroValue,typeInfo,hie,e1,newRow]
  · refine hk _ _ rfl (Ext.push _) ?_ (by simp);simp [Blk]
theorem zR {T:Nat} {parts:Array (Nat×Operand)} (hT:P.underlying T=some (.slice E)) (hi:(P.info? E).map (fun i=>(i.zero,i.size))=some (some z,n)) (hl:len*n≤16777216) (hn:len*n≠0)
 (hf:Instr.fill (fun i=>some (i*n,n)) ((Array.range (len*n)).map (fun i=>z.cells[i%z.cells.size]!)) (parts.toList.map fun (i,x)=>(i,σ x))=some ⟨cs⟩)
 (hk:∀ b w',b=w.heap.size→Ext w w'→Blk w' b E cs→w'.heap.size=b+1→K (.slice (some ⟨b,0,none⟩) len len) w'):Runs P r ⟨d,.buildSlice T len parts,ty,pos,af,g⟩ σ w K:=by
 cases hie:P.info? E with
 | none=>simp [hie] at hi
 | some ie =>
  simp [hie] at hi;obtain ⟨e1,e2⟩:=hi;refine zAb (fun _ e=>by cases e) (v := .slice (some ⟨w.heap.size,0,none⟩) len len) (w':={ w with heap:=w.heap.push (.cells ⟨cs⟩ E) }) ?_ ?_
  · have h24:¬ (16777216<len*n):=by omega
    have ha:(parts.toList.map fun (i,x)=>(i,σ x))=(parts.map fun (i,x)=>(i,σ x)).toList:=by simp
    rw [ha] at hf;simp only [execOp,Instr.buildSlice];simp only [Sem.run_bind,run_underlying hT,Result.andThen_ok,sizeOf,typeInfo,run_program,hie,Sem.run_pure,e2];simp only [Nat.reducePow,gt_iff_lt,if_neg h24,if_neg hn,zeroValue,typeInfo,Sem.run_bind,run_program,Result.andThen_ok,hie,Sem.run_pure,e1,hf,newRow,run_newObj]
  · refine hk _ _ rfl (Ext.push _) ?_ (by simp);simp [Blk]
theorem zj {T:Nat} {parts:Array (Nat×Operand)} {cs:Array Value} (hf:P.built T (parts.toList.map fun (i,x)=>(i,σ x))=some cs) (hk:K (.agg cs) w):Runs P r ⟨d,.build T parts,ty,pos,af,g⟩ σ w K:=by
 refine zl (fun _ e=>by cases e) ?_ hk;have ha:(parts.toList.map fun (i,x)=>(i,σ x))=(parts.map fun (i,x)=>(i,σ x)).toList:=by simp
 rw [ha] at hf;simp only [execOp];simp only [Sem.run_bind,run_build w T _ cs hf,Result.andThen_ok,Sem.run_pure]
def zAq (P:Program) (f:FuncId):Prop:=∀ args w,(callFunc f args).run P w = .ok (.enter f args) w
theorem zC {args:Array Operand} {ts:Array TypeId} (hf:zAq P f) (hk:CallK P f (args.toList.map σ).toArray w K) (hσ:σ (.func f) = .func (.func f) #[] #[]) :
 Runs P r ⟨d,.call { callee := .value (.func f),args:=args,argTypes:=ts },ty,pos,af,g⟩ σ w K:=by
 unfold Runs;rw [zBu (fun _ e=>by cases e)];have:(execOp σ ⟨d,.call { callee := .value (.func f),args:=args,argTypes:=ts },ty,pos,af,g⟩).run P w = .ok (.enter f (args.map σ)) w:=by
  simp only [execOp,resolve,hσ,Deferred.ofValue];simp [invoke,hf (args.map σ) w]
 rw [this];have ha:(args.toList.map σ).toArray=args.map σ:=amap _ _;rw [ha] at hk;exact hk
theorem zBU {first cap:Array Value} {args:Array Operand} {ts:Array TypeId} (hx:σ x = .func (.func f) first cap) (hf:zAq P f) (hk:CallK P f (first.toList++args.toList.map σ++cap.toList).toArray w K) :
 Runs P r ⟨d,.call { callee := .value x,args:=args,argTypes:=ts },ty,pos,af,g⟩ σ w K:=by
 unfold Runs;rw [zBu (fun _ e=>by cases e)];have:(execOp σ ⟨d,.call { callee := .value x,args:=args,argTypes:=ts },ty,pos,af,g⟩).run P w = .ok (.enter f (first++args.map σ++cap)) w:=by
  simp only [execOp,resolve,hx,Deferred.ofValue];simp only [Sem.run_bind,Sem.run_pure,Result.andThen_ok,invoke];exact hf _ _
 rw [this];have ha:(first.toList++args.toList.map σ++cap.toList).toArray=first++args.map σ++cap:=by simp
 rw [ha] at hk;exact hk
theorem zGi {args:Array Operand} {ts:Array TypeId} (hf:(callFunc f (args.toList.map σ).toArray).run P w = .ok (.value v) w) (hσ:σ (.func f) = .func (.func f) #[] #[]) (hk:K v w) :
 Runs P r ⟨d,.call { callee := .value (.func f),args:=args,argTypes:=ts },ty,pos,af,g⟩ σ w K:=by
 refine zl (fun _ e=>by cases e) ?_ hk;have ha:(args.toList.map σ).toArray=args.map σ:=amap _ _;rw [ha] at hf;simp only [execOp,resolve,hσ,Deferred.ofValue];simp [invoke,hf]
theorem runs_callEV {args:Array Operand} {ts:Array TypeId} (hx:σ x = .func (.func f) #[] #[]) (hf:(callFunc f (args.toList.map σ).toArray).run P w = .ok (.value v) w) (hk:K v w) :
 Runs P r ⟨d,.call { callee := .value x,args:=args,argTypes:=ts },ty,pos,af,g⟩ σ w K:=by
 refine zl (fun _ e=>by cases e) ?_ hk;have ha:(args.toList.map σ).toArray=args.map σ:=amap _ _;rw [ha] at hf;simp only [execOp,resolve,hx,Deferred.ofValue];simp [invoke,hf]
end laws
section steps
variable {o:Oper} {ρ:Env} {K:Env→World→Prop}
theorem sr (hg:g=none) (h:Runs P r ⟨dst,op,ty,pos,af,g⟩ (look ρ) w (fun v w'=>zAH P r ops os (ext ρ dst v) w' K)):zAH P r ops (⟨dst,op,ty,pos,af,g⟩ :: os) ρ w K:=by
 unfold zAH;rw [if_pos (by simp [zBV,hg])];exact h
theorem sr_g (hg:zBV ops ⟨dst,op,ty,pos,af,g⟩ ρ=true) (h:Runs P r ⟨dst,op,ty,pos,af,g⟩ (look ρ) w (fun v w'=>zAH P r ops os (ext ρ dst v) w' K)):zAH P r ops (⟨dst,op,ty,pos,af,g⟩ :: os) ρ w K:=by
 unfold zAH;rw [if_pos hg];exact h
theorem zIS (hg:zBV ops ⟨dst,op,ty,pos,af,g⟩ ρ=false) (h:zAH P r ops os (ext ρ dst undef) w K):zAH P r ops (⟨dst,op,ty,pos,af,g⟩ :: os) ρ w K:=by
 unfold zAH;rw [if_neg (by simp [hg])];exact h
theorem zAi (h:K ρ w):zAH P r ops [] ρ w K:=h
def Keep (ρ:Env):Env→Prop
 | []=>True
 | (t,v) :: ρ'=>(dom ρ).contains t=true∧look1 ρ t=v∧Keep ρ ρ'
theorem zKV {ρ:Env}:∀ {ρ':Env},Keep ρ ρ'→∀ t∈dom ρ',t∈dom ρ∧look1 ρ' t=look1 ρ t
 | [],_,t,ht=>by simp [dom] at ht
 | (t',v) :: ρ',⟨h1,h2,h3⟩,t,ht=>by
  simp only [look1];by_cases e:t=t'
  · subst e;exact ⟨by simpa using h1,by rw [if_pos rfl,h2]⟩
  · rw [if_neg e];refine zKV h3 t ?_;simp only [dom,List.map_cons,List.mem_cons] at ht;exact ht.resolve_left e
theorem wpe_k {c:Code} {Q:Post} (ρ':Env) (hk:Keep ρ ρ') (h:WPE P r N c Q δ ρ' w):WPE P r N c Q δ ρ w :=
 zMb ρ' (zKV hk) h
end steps
theorem wpe_ite {Q:Post} {ρ:Env} {c:Operand} {x y:Code} {b:Bool} (hp:(match c with | .tmp t=>(dom ρ).contains t | _=>true)=true) (hc:look ρ c = .bool b)
 (hx:b=true→WPE P r N x Q δ ρ w) (hy:b=false→WPE P r N y Q δ ρ w):WPE P r N (.cond c x y) Q δ ρ w:=by
 cases b
 · exact zHT false hp hc (hy rfl)
 · exact zHT true hp hc (hx rfl)
theorem zEx {Q:Post} {ρ:Env} (hok:okReg N ops ρ=true)
 (h:∀ K:Env→World→Prop,(∀ ρ' w',Q .normal ρ' δ w'→K ρ' w')→zAH P r ops ops ρ w K):WPE P r N (.region id ops.toArray false) Q δ ρ w :=
 zJN hok (h _ fun _ _ h=>h)
theorem zCJ {Q:Post} {ρ:Env} {x y:Code} (M:Env→World→Prop)
 (hx:WPE P r N x (loopQ δ M Q) δ ρ w) (hy:∀ ρ w,M ρ w→WPE P r N y Q δ ρ w):WPE P r N (.seq x y) Q δ ρ w :=
 zA (zMc hx fun e ρ δ' w h=>by
  cases e with
  | normal=>obtain ⟨rfl,hm⟩:=h;exact hy _ _ hm
  | _=>exact h)
def prune (keep:List Nat) (ρ:Env):Env:=keep.map fun t=>(t,look1 ρ t)
theorem zHv (ρ:Env) {t:Nat}:∀ keep:List Nat,t∈keep→look1 (prune keep ρ) t=look1 ρ t
 | [],h=>by cases h
 | u :: keep,h=>by
  have ih:=zHv ρ (t:=t) keep;simp only [prune,List.map_cons,look1] at ih ⊢;by_cases e:t=u
  · subst e;rw [if_pos rfl]
  · rw [if_neg e];exact ih ((List.mem_cons.1 h).resolve_left e)
theorem zGW {c:Code} {Q:Post} {ρ:Env} (keep:List Nat) {ρ':Env} (hp:keep.all (fun t=>(dom ρ).contains t)=true) (he:prune keep ρ=ρ') (h:WPE P r N c Q δ ρ' w):WPE P r N c Q δ ρ w:=by
 subst he;refine zMb _ (fun t ht => ?_) h;have hmem:t∈keep:=by
  simp only [prune,dom,List.map_map,List.mem_map,Function.comp] at ht;obtain ⟨u,hu,rfl⟩:=ht;exact hu
 have h1:=List.all_eq_true.1 hp t hmem;exact ⟨by simpa using h1,zHv ρ keep hmem⟩
theorem CallK.mono {K:Value→World→Prop} (h:CallK P f args w K) (hk:∀ v w',K v w'→K' v w'):CallK P f args w K' :=
 Calls.mono h fun _ _ ⟨v,e,hv⟩=>⟨v,e,hk v _ hv⟩
theorem zBj {c:Code} (N:Nat)
 (hf:P.funcs[f]? = some fn) (hb:fn.body=some c) (hN:fn.ntmps=N) (hargs:args.size≤N)
 (h:WPE P none N c (funQ fun ρ δ w'=>δ=[]∧∃ v,Gives P fn N ρ w' v∧Φ v w') [] (args0 0 args.toList) w):CallK P f args w Φ:=by
 subst hN;refine callsW' (r:=none) (n:=0) (callsIn_of_wp hf hb trivial ?_);refine wpIn_mono (h _ (zHF fn args hargs) rfl) ?_;rintro e a w' ⟨ρ,hfr,hq⟩;cases e with
 | normal=>obtain ⟨hd,v,hg,hv⟩:=hq;exact ⟨hd,v,hg a hfr,v,rfl,hv⟩
 | ret=>obtain ⟨hd,v,hg,hv⟩:=hq;exact ⟨hd,v,hg a hfr,v,rfl,hv⟩
 | _=>exact hq.elim
theorem Upd.refl (b:Nat) (w:World):Upd b w w:=⟨rfl,rfl,rfl,rfl,fun _ _=>rfl,fun _ cs h=>⟨cs,h⟩⟩
theorem Upd.trans {w'':World} (h:Upd b w w') (k:Upd b w' w''):Upd b w w'' :=
 ⟨k.os.trans h.os,k.tape.trans h.tape,k.output.trans h.output,k.size.trans h.size,fun j hj=>(k.block j hj).trans (h.block j hj),fun T cs hb=>by
  obtain ⟨cs',h'⟩:=h.kind T cs hb;exact k.kind T cs' h'⟩
def okC (ρ:Env) (c:Operand):Prop:=(match c with | .tmp t=>(dom ρ).contains t | _=>true)=true
section
variable {P:Program} {r:Option Nat} {N:Nat} {Q:Post} {δ:List Deferred} {ρ:Env} {w:World} {ops os:List Oper} {K:Env→World→Prop} {y:Code} {id:Nat} {dst:Option Tmp} {x:Operand} {op:Op} {ty:TypeId} {pos:String} {af:Array Edge} {g:Option (Nat×Bool)}
theorem mv (h:zAH P r ops os (ext ρ dst (look ρ x)) w K):zAH P r ops (⟨dst,.move x,ty,pos,af,none⟩ :: os) ρ w K:=sr rfl (zF h)
theorem ag (h:zAH P r ops os (ext ρ dst (look ρ x)) w K):zAH P r ops (⟨dst,.assign x,ty,pos,af,none⟩ :: os) ρ w K:=sr rfl (zp h)
theorem K1 (h:Runs P r ⟨dst,op,ty,pos,af,none⟩ (look ρ) w (fun v w'=>zAH P r ops os (ext ρ dst v) w' K)):zAH P r ops (⟨dst,op,ty,pos,af,none⟩ :: os) ρ w K:=sr rfl h
theorem K2 (h:Runs P r ⟨dst,op,ty,pos,af,g⟩ (look ρ) w (fun v w'=>zAH P r ops os (ext ρ dst v) w' K)) (hg:zBV ops ⟨dst,op,ty,pos,af,g⟩ ρ=true:=by rfl):zAH P r ops (⟨dst,op,ty,pos,af,g⟩ :: os) ρ w K:=sr_g hg h
theorem K3 (h:zAH P r ops os (ext ρ dst undef) w K) (hg:zBV ops ⟨dst,op,ty,pos,af,g⟩ ρ=false:=by rfl):zAH P r ops (⟨dst,op,ty,pos,af,g⟩ :: os) ρ w K:=zIS hg h
theorem rk (h:∀ K:Env→World→Prop,(∀ ρ' w',WPE P r N y Q δ ρ' w'→K ρ' w')→zAH P r ops ops ρ w K) (hok:okReg N ops ρ=true:=by rfl):WPE P r N (.seq (.region id ops.toArray false) y) Q δ ρ w:=zDc hok h
theorem K4 (h:∀ K:Env→World→Prop,(∀ ρ' w',Q .normal ρ' δ w'→K ρ' w')→zAH P r ops ops ρ w K) (hok:okReg N ops ρ=true:=by rfl):WPE P r N (.region id ops.toArray false) Q δ ρ w:=zEx hok h
theorem K5 (keep:List Nat) {ρ':Env} (h:WPE P r N y Q δ ρ' w) (hp:keep.all (fun t=>(dom ρ).contains t)=true:=by rfl) (he:prune keep ρ=ρ':=by simp only [prune,List.map_cons,List.map_nil,look,look1,ext,Nat.reduceEqDiff,↓reduceIte,reduceCtorEq];exact rfl):WPE P r N y Q δ ρ w:=zGW keep hp he h
theorem rn (keep:List Nat) {ρ':Env} (hK:∀ ρ' w',WPE P r N y Q δ ρ' w'→K ρ' w') (h:WPE P r N y Q δ ρ' w) (hp:keep.all (fun t=>(dom ρ).contains t)=true:=by rfl) (he:prune keep ρ=ρ':=by simp only [prune,List.map_cons,List.map_nil,look,look1,ext,Nat.reduceEqDiff,↓reduceIte,reduceCtorEq];exact rfl):zAH P r ops [] ρ w K:=hK _ _ (zGW keep hp he h)
theorem wct {c:Operand} {x y:Code} (hc:look ρ c = .bool true) (h:WPE P r N x Q δ ρ w) (hp:okC ρ c:=by exact rfl):WPE P r N (.cond c x y) Q δ ρ w:=zHT true hp hc h
theorem wcf {c:Operand} {x y:Code} (hc:look ρ c = .bool false) (h:WPE P r N y Q δ ρ w) (hp:okC ρ c:=by exact rfl):WPE P r N (.cond c x y) Q δ ρ w:=zHT false hp hc h
theorem rj (h:∀ k:{K:Env→World→Prop // ∀ ρ' w',WPE P r N y Q δ ρ' w'→K ρ' w'},zAH P r ops ops ρ w k.1) (hok:okReg N ops ρ=true:=by rfl):WPE P r N (.seq (.region id ops.toArray false) y) Q δ ρ w:=zDc hok fun K hK=>h ⟨K,hK⟩
theorem K6 (h:∀ k:{K:Env→World→Prop // ∀ ρ' w',Q .normal ρ' δ w'→K ρ' w'},zAH P r ops ops ρ w k.1) (hok:okReg N ops ρ=true:=by rfl):WPE P r N (.region id ops.toArray false) Q δ ρ w:=zEx hok fun K hK=>h ⟨K,hK⟩
theorem rm (keep:List Nat) {ρ':Env} (k:{K:Env→World→Prop // ∀ ρ' w',WPE P r N y Q δ ρ' w'→K ρ' w'}) (h:WPE P r N y Q δ ρ' w) (hp:keep.all (fun t=>(dom ρ).contains t)=true:=by rfl) (he:prune keep ρ=ρ':=by simp only [prune,List.map_cons,List.map_nil,look,look1,ext,Nat.reduceEqDiff,↓reduceIte,reduceCtorEq];exact rfl):zAH P r ops [] ρ w k.1:=k.2 _ _ (zGW keep hp he h)
theorem rl {A:Env→World→Prop} (k:{K:Env→World→Prop // ∀ ρ' w',A ρ' w'→K ρ' w'}) (h:A ρ w):zAH P r ops [] ρ w k.1:=k.2 _ _ h
theorem rs (keep:List Nat) {ρ':Env} {J:Env→List Deferred→World→Prop} (k:{K:Env→World→Prop // ∀ ρ' w',seqQ J Q .normal ρ' δ w'→K ρ' w'}) (h:J ρ' δ w) (hj:J=(fun ρ δ w=>WPE P r N y Q δ ρ w):=by rfl) (hp:keep.all (fun t=>(dom ρ).contains t)=true:=by rfl) (he:prune keep ρ=ρ':=by simp only [prune,List.map_cons,List.map_nil,look,look1,ext,Nat.reduceEqDiff,↓reduceIte,reduceCtorEq];exact rfl):zAH P r ops [] ρ w k.1:=k.2 _ _ (by subst hj;exact zGW keep hp he h)
theorem sk {K:Env→List Deferred→World→Prop} (h:K ρ δ w):WPE P r N .skip (seqQ K Q) δ ρ w:=zz (zN h)
theorem K7 (h:zAH P r ops os (ext ρ dst (look ρ x)) w K) (hg:zBV ops ⟨dst,.move x,ty,pos,af,g⟩ ρ=true:=by rfl):zAH P r ops (⟨dst,.move x,ty,pos,af,g⟩ :: os) ρ w K:=sr_g hg (zF h)
theorem pc0 {c x y:Operand} {b:Bool} (hc:look ρ c = .bool b) (h:zAH P r ops os (ext ρ dst (if b then look ρ x else look ρ y)) w K):zAH P r ops (⟨dst,.pick c x y,ty,pos,af,none⟩ :: os) ρ w K:=sr rfl (zAd hc h)
theorem xt {t:Operand} {i:Nat} {vs:Array Value} {v:Value} (e:(look ρ t,vs[i]?)=(.tuple vs,some v)) (h:zAH P r ops os (ext ρ dst v) w K):zAH P r ops (⟨dst,.extract t i,ty,pos,af,none⟩ :: os) ρ w K:=sr rfl (zBK (Prod.mk.inj e).1 (Prod.mk.inj e).2 h)
theorem K8 {op:BinOp} {t t':TypeId} {x y:Operand} {k:IntKind} {a b:Int} {v:Value} (e:(look ρ x,look ρ y,ibin op k a b)=(Value.int k a,Value.int k b,some v)) (h:zAH P r ops os (ext ρ dst v) w K):zAH P r ops (⟨dst,.binOp op t x y t',ty,pos,af,none⟩ :: os) ρ w K:=sr rfl (zH (Prod.mk.inj e).1 (Prod.mk.inj (Prod.mk.inj e).2).1 (Prod.mk.inj (Prod.mk.inj e).2).2 h)
theorem K9 {op:BinOp} {t t':TypeId} {x y:Operand} {k:IntKind} {a b:Int} {z0:Bool} (z:Bool) (e:(look ρ x,look ρ y,ibin op k a b)=(Value.int k a,Value.int k b,some (Value.bool z0))) (hz:z0=z) (h:zAH P r ops os (ext ρ dst (.bool z)) w K):zAH P r ops (⟨dst,.binOp op t x y t',ty,pos,af,none⟩ :: os) ρ w K:=K8 e (hz ▸ h)
theorem K0 {c:Operand} {x:Code} {b:Bool} (hc:look ρ c = .bool b) (hx:b=true→WPE P r N x Q δ ρ w) (hy:b=false→WPE P r N y Q δ ρ w) (hp:okC ρ c:=by exact rfl):WPE P r N (.cond c x y) Q δ ρ w:=wpe_ite hp hc hx hy
theorem E0:Ext w w:=Ext.refl w
theorem rJ (h:∀ k:{K:Env→World→Prop // ∀ ρ' w',WPE P r N y Q δ ρ' w'→K ρ' w'},zAH P r (⟨dst,.move x,ty,pos,af,none⟩ :: os) os (ext ρ dst (look ρ x)) w k.1) (hok:okReg N (⟨dst,.move x,ty,pos,af,none⟩ :: os) ρ=true:=by rfl):WPE P r N (.seq (.region id (⟨dst,.move x,ty,pos,af,none⟩ :: os).toArray false) y) Q δ ρ w:=zDc hok fun K hK=>mv (h ⟨K,hK⟩)
theorem rI (h:∀ k:{K:Env→World→Prop // ∀ ρ' w',Q .normal ρ' δ w'→K ρ' w'},zAH P r (⟨dst,.move x,ty,pos,af,none⟩ :: os) os (ext ρ dst (look ρ x)) w k.1) (hok:okReg N (⟨dst,.move x,ty,pos,af,none⟩ :: os) ρ=true:=by rfl):WPE P r N (.region id (⟨dst,.move x,ty,pos,af,none⟩ :: os).toArray false) Q δ ρ w:=zEx hok fun K hK=>mv (h ⟨K,hK⟩)
theorem en {fn:Func} {t:Nat} {u:World} {Φ:Value→World→Prop} (hr:fn.results = #[.tmp t]) (E:Ext u w) (h:Φ (look1 ρ t) w) (hd:(dom ρ).contains t=true:=by rfl):funQ (fun ρ δ w'=>δ=[]∧∃ v,Gives P fn N ρ w' v∧Ext u w'∧Φ v w') .ret ρ [] w:=⟨rfl,_,zm hr hd,E,h⟩
theorem ru (k:{K:Env→World→Prop // ∀ ρ' w',WPE P r N y Q δ ρ' w'→K ρ' w'}) (h:WPE P r N y Q δ ρ w):zAH P r ops [] ρ w k.1:=k.2 _ _ h
end
section
variable {P:Program} {f:FuncId} {fn:Func} {c:Code} {args:Array Value} {w:World} {Φ:Value→World→Prop}
theorem J0 (N:Nat) (hf:P.funcs[f]? = some fn) (hb:fn.body=some c) (h:WPE P none N c (funQ fun ρ δ w'=>δ=[]∧∃ v,Gives P fn N ρ w' v∧Ext w w'∧Φ v w') [] (args0 0 args.toList) w) (hN:fn.ntmps=N:=by rfl) (ha:args.size≤N:=by exact Nat.le_of_ble_eq_true rfl):Ret P f args w Φ:=ret_of_wpe N hf hb hN ha h
theorem hb_ (hf:P.funcs[f]? = some fn) (h:(fn.body.isSome,fn.name == "runtime.NumGoroutine")=(true,false):=by kernel_rfl):zAq P f:=fun a w=>by
  obtain ⟨b,hb⟩:=Option.isSome_iff_exists.1 (Prod.mk.inj h).1
  exact enters_of hf (Prod.mk.inj h).2 hb a w
theorem kp {ρ:Env}:∀ {ρ':Env},ρ'.map (fun x=>((dom ρ).contains x.1,look1 ρ x.1))=ρ'.map (fun x=>(true,x.2))→Keep ρ ρ'
  | [],_=>trivial
  | (_,_) :: _,h=>by
    simp only [List.map_cons,List.cons.injEq,Prod.mk.injEq] at h
    exact ⟨h.1.1,h.1.2,kp h.2⟩
end
section
variable {P:Program} {r:Option Nat} {d:Option Tmp} {ty:TypeId} {pos:String} {af:Array Edge} {g:Option (Nat×Bool)} {σ:Operand→Value} {w u:World} {K:Value→World→Prop} {f:FuncId} {args:Array Operand} {ts:Array TypeId} {Φ:Value→World→Prop}
theorem j0 (E:Ext u w) (hf:zAq P f) (hr:Ret P f (args.toList.map σ).toArray w Φ) (h:∀ v w',Ext u w'→Φ v w'→K v w') (hσ:σ (.func f) = .func (.func f) #[] #[]:=by rfl):Runs P r ⟨d,.call { callee := .value (.func f),args:=args,argTypes:=ts },ty,pos,af,g⟩ σ w K:=zC hf (CallK.of_ret hr fun v w' e q=>h v w' (E.trans e) q) hσ
theorem j1 {p0:World→Prop} (E:Ext u w) (hp0:∀ {w'},Ext w w'→p0 w') (hf:zAq P f) (hr:Ret P f (args.toList.map σ).toArray w Φ) (h:∀ v w',Ext u w'→p0 w'→Φ v w'→K v w') (hσ:σ (.func f) = .func (.func f) #[] #[]:=by rfl):Runs P r ⟨d,.call { callee := .value (.func f),args:=args,argTypes:=ts },ty,pos,af,g⟩ σ w K:=zC hf (CallK.of_ret hr fun v w' e q=>h v w' (E.trans e) (hp0 e) q) hσ
theorem j2 {p0 p1:World→Prop} (E:Ext u w) (hp0:∀ {w'},Ext w w'→p0 w') (hp1:∀ {w'},Ext w w'→p1 w') (hf:zAq P f) (hr:Ret P f (args.toList.map σ).toArray w Φ) (h:∀ v w',Ext u w'→p0 w'→p1 w'→Φ v w'→K v w') (hσ:σ (.func f) = .func (.func f) #[] #[]:=by rfl):Runs P r ⟨d,.call { callee := .value (.func f),args:=args,argTypes:=ts },ty,pos,af,g⟩ σ w K:=zC hf (CallK.of_ret hr fun v w' e q=>h v w' (E.trans e) (hp0 e) (hp1 e) q) hσ
theorem j3 {p0 p1 p2:World→Prop} (E:Ext u w) (hp0:∀ {w'},Ext w w'→p0 w') (hp1:∀ {w'},Ext w w'→p1 w') (hp2:∀ {w'},Ext w w'→p2 w') (hf:zAq P f) (hr:Ret P f (args.toList.map σ).toArray w Φ) (h:∀ v w',Ext u w'→p0 w'→p1 w'→p2 w'→Φ v w'→K v w') (hσ:σ (.func f) = .func (.func f) #[] #[]:=by rfl):Runs P r ⟨d,.call { callee := .value (.func f),args:=args,argTypes:=ts },ty,pos,af,g⟩ σ w K:=zC hf (CallK.of_ret hr fun v w' e q=>h v w' (E.trans e) (hp0 e) (hp1 e) (hp2 e) q) hσ
theorem j4 {p0 p1 p2 p3:World→Prop} (E:Ext u w) (hp0:∀ {w'},Ext w w'→p0 w') (hp1:∀ {w'},Ext w w'→p1 w') (hp2:∀ {w'},Ext w w'→p2 w') (hp3:∀ {w'},Ext w w'→p3 w') (hf:zAq P f) (hr:Ret P f (args.toList.map σ).toArray w Φ) (h:∀ v w',Ext u w'→p0 w'→p1 w'→p2 w'→p3 w'→Φ v w'→K v w') (hσ:σ (.func f) = .func (.func f) #[] #[]:=by rfl):Runs P r ⟨d,.call { callee := .value (.func f),args:=args,argTypes:=ts },ty,pos,af,g⟩ σ w K:=zC hf (CallK.of_ret hr fun v w' e q=>h v w' (E.trans e) (hp0 e) (hp1 e) (hp2 e) (hp3 e) q) hσ
theorem j5 {p0 p1 p2 p3 p4:World→Prop} (E:Ext u w) (hp0:∀ {w'},Ext w w'→p0 w') (hp1:∀ {w'},Ext w w'→p1 w') (hp2:∀ {w'},Ext w w'→p2 w') (hp3:∀ {w'},Ext w w'→p3 w') (hp4:∀ {w'},Ext w w'→p4 w') (hf:zAq P f) (hr:Ret P f (args.toList.map σ).toArray w Φ) (h:∀ v w',Ext u w'→p0 w'→p1 w'→p2 w'→p3 w'→p4 w'→Φ v w'→K v w') (hσ:σ (.func f) = .func (.func f) #[] #[]:=by rfl):Runs P r ⟨d,.call { callee := .value (.func f),args:=args,argTypes:=ts },ty,pos,af,g⟩ σ w K:=zC hf (CallK.of_ret hr fun v w' e q=>h v w' (E.trans e) (hp0 e) (hp1 e) (hp2 e) (hp3 e) (hp4 e) q) hσ
theorem j6 {p0 p1 p2 p3 p4 p5:World→Prop} (E:Ext u w) (hp0:∀ {w'},Ext w w'→p0 w') (hp1:∀ {w'},Ext w w'→p1 w') (hp2:∀ {w'},Ext w w'→p2 w') (hp3:∀ {w'},Ext w w'→p3 w') (hp4:∀ {w'},Ext w w'→p4 w') (hp5:∀ {w'},Ext w w'→p5 w') (hf:zAq P f) (hr:Ret P f (args.toList.map σ).toArray w Φ) (h:∀ v w',Ext u w'→p0 w'→p1 w'→p2 w'→p3 w'→p4 w'→p5 w'→Φ v w'→K v w') (hσ:σ (.func f) = .func (.func f) #[] #[]:=by rfl):Runs P r ⟨d,.call { callee := .value (.func f),args:=args,argTypes:=ts },ty,pos,af,g⟩ σ w K:=zC hf (CallK.of_ret hr fun v w' e q=>h v w' (E.trans e) (hp0 e) (hp1 e) (hp2 e) (hp3 e) (hp4 e) (hp5 e) q) hσ
theorem j7 {p0 p1 p2 p3 p4 p5 p6:World→Prop} (E:Ext u w) (hp0:∀ {w'},Ext w w'→p0 w') (hp1:∀ {w'},Ext w w'→p1 w') (hp2:∀ {w'},Ext w w'→p2 w') (hp3:∀ {w'},Ext w w'→p3 w') (hp4:∀ {w'},Ext w w'→p4 w') (hp5:∀ {w'},Ext w w'→p5 w') (hp6:∀ {w'},Ext w w'→p6 w') (hf:zAq P f) (hr:Ret P f (args.toList.map σ).toArray w Φ) (h:∀ v w',Ext u w'→p0 w'→p1 w'→p2 w'→p3 w'→p4 w'→p5 w'→p6 w'→Φ v w'→K v w') (hσ:σ (.func f) = .func (.func f) #[] #[]:=by rfl):Runs P r ⟨d,.call { callee := .value (.func f),args:=args,argTypes:=ts },ty,pos,af,g⟩ σ w K:=zC hf (CallK.of_ret hr fun v w' e q=>h v w' (E.trans e) (hp0 e) (hp1 e) (hp2 e) (hp3 e) (hp4 e) (hp5 e) (hp6 e) q) hσ
theorem j8 {p0 p1 p2 p3 p4 p5 p6 p7:World→Prop} (E:Ext u w) (hp0:∀ {w'},Ext w w'→p0 w') (hp1:∀ {w'},Ext w w'→p1 w') (hp2:∀ {w'},Ext w w'→p2 w') (hp3:∀ {w'},Ext w w'→p3 w') (hp4:∀ {w'},Ext w w'→p4 w') (hp5:∀ {w'},Ext w w'→p5 w') (hp6:∀ {w'},Ext w w'→p6 w') (hp7:∀ {w'},Ext w w'→p7 w') (hf:zAq P f) (hr:Ret P f (args.toList.map σ).toArray w Φ) (h:∀ v w',Ext u w'→p0 w'→p1 w'→p2 w'→p3 w'→p4 w'→p5 w'→p6 w'→p7 w'→Φ v w'→K v w') (hσ:σ (.func f) = .func (.func f) #[] #[]:=by rfl):Runs P r ⟨d,.call { callee := .value (.func f),args:=args,argTypes:=ts },ty,pos,af,g⟩ σ w K:=zC hf (CallK.of_ret hr fun v w' e q=>h v w' (E.trans e) (hp0 e) (hp1 e) (hp2 e) (hp3 e) (hp4 e) (hp5 e) (hp6 e) (hp7 e) q) hσ
theorem j9 {p0 p1 p2 p3 p4 p5 p6 p7 p8:World→Prop} (E:Ext u w) (hp0:∀ {w'},Ext w w'→p0 w') (hp1:∀ {w'},Ext w w'→p1 w') (hp2:∀ {w'},Ext w w'→p2 w') (hp3:∀ {w'},Ext w w'→p3 w') (hp4:∀ {w'},Ext w w'→p4 w') (hp5:∀ {w'},Ext w w'→p5 w') (hp6:∀ {w'},Ext w w'→p6 w') (hp7:∀ {w'},Ext w w'→p7 w') (hp8:∀ {w'},Ext w w'→p8 w') (hf:zAq P f) (hr:Ret P f (args.toList.map σ).toArray w Φ) (h:∀ v w',Ext u w'→p0 w'→p1 w'→p2 w'→p3 w'→p4 w'→p5 w'→p6 w'→p7 w'→p8 w'→Φ v w'→K v w') (hσ:σ (.func f) = .func (.func f) #[] #[]:=by rfl):Runs P r ⟨d,.call { callee := .value (.func f),args:=args,argTypes:=ts },ty,pos,af,g⟩ σ w K:=zC hf (CallK.of_ret hr fun v w' e q=>h v w' (E.trans e) (hp0 e) (hp1 e) (hp2 e) (hp3 e) (hp4 e) (hp5 e) (hp6 e) (hp7 e) (hp8 e) q) hσ
theorem j10 {p0 p1 p2 p3 p4 p5 p6 p7 p8 p9:World→Prop} (E:Ext u w) (hp0:∀ {w'},Ext w w'→p0 w') (hp1:∀ {w'},Ext w w'→p1 w') (hp2:∀ {w'},Ext w w'→p2 w') (hp3:∀ {w'},Ext w w'→p3 w') (hp4:∀ {w'},Ext w w'→p4 w') (hp5:∀ {w'},Ext w w'→p5 w') (hp6:∀ {w'},Ext w w'→p6 w') (hp7:∀ {w'},Ext w w'→p7 w') (hp8:∀ {w'},Ext w w'→p8 w') (hp9:∀ {w'},Ext w w'→p9 w') (hf:zAq P f) (hr:Ret P f (args.toList.map σ).toArray w Φ) (h:∀ v w',Ext u w'→p0 w'→p1 w'→p2 w'→p3 w'→p4 w'→p5 w'→p6 w'→p7 w'→p8 w'→p9 w'→Φ v w'→K v w') (hσ:σ (.func f) = .func (.func f) #[] #[]:=by rfl):Runs P r ⟨d,.call { callee := .value (.func f),args:=args,argTypes:=ts },ty,pos,af,g⟩ σ w K:=zC hf (CallK.of_ret hr fun v w' e q=>h v w' (E.trans e) (hp0 e) (hp1 e) (hp2 e) (hp3 e) (hp4 e) (hp5 e) (hp6 e) (hp7 e) (hp8 e) (hp9 e) q) hσ
end
variable {j:Nat} {Q:Post} {listed:Array Bool}
section
structure ExtS (S:List Nat) (w w':World):Prop where
 os:w'.os=w.os
 tape:w'.tape=w.tape
 output:w'.output=w.output
 size:w.heap.size≤w'.heap.size
 block:∀ k,k<w.heap.size→k ∉ S→w'.heap[k]? = w.heap[k]?
 kind:∀ k T cs,Blk w k T cs→∃ cs',Blk w' k T cs'
theorem ExtS.refl (S:List Nat) (w:World):ExtS S w w:=⟨rfl,rfl,rfl,Nat.le_refl _,fun _ _ _=>rfl,fun _ _ cs h=>⟨cs,h⟩⟩
theorem ExtS.trans {S:List Nat} {a b c:World} (h:ExtS S a b) (k:ExtS S b c):ExtS S a c :=
 ⟨k.os.trans h.os,k.tape.trans h.tape,k.output.trans h.output,Nat.le_trans h.size k.size,fun i hi hn=>(k.block i (Nat.lt_of_lt_of_le hi h.size) hn).trans (h.block i hi hn),fun i T cs hb=>let ⟨_,h1⟩:=h.kind i T cs hb;k.kind i T _ h1⟩
theorem Ext.toS (h:Ext w w') (S:List Nat):ExtS S w w':=⟨Below.os h,Below.tape h,Below.output h,Below.size h,fun k hk _=>Below.block h k hk,fun _ _ cs hb=>⟨cs,hb.ext h⟩⟩
theorem ExtS.toExt (h:ExtS [] w w'):Ext w w':=⟨h.os,h.tape,h.output,h.size,fun k hk=>h.block k hk (by simp)⟩
theorem Upd.toS (h:Upd b w w') {S:List Nat} (hb:b∈S):ExtS S w w' :=
 ⟨h.os,h.tape,h.output,by rw [h.size];exact Nat.le_refl _,fun k _ hn=>h.block k (fun e=>hn (e ▸ hb)),fun k T cs hk=>by
  by_cases e:k=b
  · subst e;exact h.kind T cs hk
  · exact ⟨cs,hk.upd h e⟩⟩
theorem Blk.extS {S:List Nat} (h:Blk w b T cs) (hx:ExtS S w w') (hb:b ∉ S):Blk w' b T cs:=by
 have:=hx.block b h.lt hb;unfold Blk at *;rw [this];exact h
structure StoreSpec where
 idx:Nat
 blk:Nat
 pre:World→Prop
 post:World→Prop
def waits (ops:List Oper) (j i:Nat):Bool :=
 match ops[j]? with
 | some o=>o.after.toList.any (fun e=>Region.binds .any e&&e.on==i)
 | none=>false
def zCX (ops:List Oper) (t:Nat):Option Nat:=ops.findIdx? (fun o=>o.dst==some t)
section
variable (P:Program) (r:Option Nat) (ops:List Oper) (Φs:List (Value→World→Prop)) (ρ:Env) (w0:World) (ss:List StoreSpec)
def phi (i:Nat):Value→World→Prop:=Φs.getD i (fun _ _=>True)
def KnowT (w:World) (i t:Nat) (v:Value):Prop :=
 match zCX ops t with
 | some j=>if waits ops i j=true then phi Φs j v w else v=look1 ρ t
 | none=>v=look1 ρ t
def KnowL (w:World) (i:Nat) (σ:Nat→Value):List Nat→Prop
 | []=>True
 | t :: ts=>KnowT ops Φs ρ w i t (σ t)∧KnowL w i σ ts
def KnowS (w:World) (i:Nat):List StoreSpec→Prop
 | []=>True
 | s :: ss=>(if waits ops i s.idx=true then s.post w else if (i==s.idx || waits ops s.idx i)=true then s.pre w else True)∧KnowS w i ss
def lookσ (σ:Nat→Value):Operand→Value
 | .tmp t=>σ t
 | .const v=>v
 | .global g => .pointer (some ⟨g,0,none⟩)
 | .func f => .func (.func f) #[] #[]
def Obl0 (i:Nat) (o:Oper) (σ:Nat→Value) (w:World):Prop :=
 match ss.find? (fun s=>s.idx==i) with
 | some s=>Runs P r o (lookσ σ) w (fun _ w'=>Upd s.blk w w'∧s.post w')
 | none=>Runs P r o (lookσ σ) w (fun v w'=>Ext w w'∧phi Φs i v w')
def Obl1 (i:Nat) (o:Oper):Prop:=∀ (σ:Nat→Value) (w:World),ExtS (ss.map (·.blk)) w0 w→KnowL ops Φs ρ w i σ (seesL ops o)→KnowS ops w i ss →
 match o.guard with
 | none=>Obl0 P r Φs ss i o σ w
 | some (j,want)=>match (ops[j]?).bind (·.dst) with
  | some t=>(σ t = .bool want→Obl0 P r Φs ss i o σ w)∧(σ t≠.bool want→phi Φs i undef w)
  | none=>False
def Obls:Nat→List Oper→Prop
 | _,[]=>True
 | i,o :: os=>Obl1 P r ops Φs ρ w0 ss i o∧Obls (i+1) os
def Posts (w:World):List StoreSpec→Prop
 | []=>True
 | s :: ss=>s.post w∧Posts w ss
def zBA:List (Value→World→Prop)→List Oper→Env→World→(Env→Prop)→Prop
 | Φ :: Φs,o :: os,ρ,w,K=>∀ v,Φ v w→zBA Φs os (ext ρ o.dst v) w K
 | _,_,ρ,_,K=>K ρ
def zAO (N:Nat):Bool :=
 (dom ρ).all (fun t=>decide (t<N)) &&
 decide (Φs.length=ops.length) &&
 decide ((ops.filterMap (·.dst)).Nodup) &&
 ss.all (fun s=>match ops[s.idx]? with | some o=>o.dst.isNone&&o.guard.isNone | none=>false)&&decide ((ss.map (·.idx)).Nodup) &&
 (List.range ops.length).all fun i=>match ops[i]? with
  | none=>false
  | some o=>(match o.dst with | some d=>decide (d<N) | none=>true)&&(match o.op with | .select _ _=>false | .defer _=>false | _=>true) &&
   (match o.guard with | some (j,_)=>((ops[j]?).bind (·.dst)).isSome | none=>true)&&(seesL ops o).all fun t=>match zCX ops t with
    | some j=>waits ops i j || ((waits ops j i || i==j)&&(dom ρ).contains t)
    | none=>(dom ρ).contains t
end
variable {P:Program} {r:Option Nat} {ops:List Oper} {Φs:List (Value→World→Prop)} {ρ:Env} {w0:World} {ss:List StoreSpec}
theorem zLp:∀ {os:List Oper} {k:Nat},Obls P r ops Φs ρ w0 ss k os→∀ i o,os[i]? = some o→Obl1 P r ops Φs ρ w0 ss (k+i) o
 | o' :: os,k,h,0,o,ho=>by simp at ho;subst ho;exact h.1
 | o' :: os,k,h,i+1,o,ho=>by
  have:=zLp (k:=k+1) h.2 i o (by simpa using ho);rwa [show k+1+i=k+(i+1) by omega] at this
 | [],_,_,i,o,ho=>by simp at ho
theorem zHG {w:World} {i:Nat} {σ:Nat→Value}:∀ {ts:List Nat},(∀ t∈ts,KnowT ops Φs ρ w i t (σ t))→KnowL ops Φs ρ w i σ ts
 | [],_=>trivial
 | t :: ts,h=>⟨h t (by simp),zHG fun t' ht=>h t' (by simp [ht])⟩
structure Inv (N:Nat) (δ:List Deferred) (listed:Array Bool) (a:Act) (w:World):Prop where
 size:listed.size=ops.length
 closed:∀ j i,listed.getD j false=true→waits ops j i=true→listed.getD i false=true
 ext:ExtS (ss.map (·.blk)) w0 w
 defers:a.defers=δ
 tmps:a.tmps.size=N
 vals:∀ i o,ops[i]? = some o→listed.getD i false=true→ss.find? (fun s=>s.idx==i)=none→∃ v,phi Φs i v w∧∀ d,o.dst=some d→a.tmps.getD d undef=v
 base:∀ t∈dom ρ,(∀ i o,ops[i]? = some o→listed.getD i false=true→o.dst≠some t)→a.tmps.getD t undef=look1 ρ t
 stores:∀ s∈ss,(listed.getD s.idx false=true→s.post w)∧(listed.getD s.idx false=false→s.pre w)
theorem zCg {o o':Oper} (hn:(ops.filterMap (·.dst)).Nodup) (hi:ops[i]? = some o) (hj:ops[j]? = some o') (h:o.dst=some t) (h':o'.dst=some t):i=j:=by
 induction ops generalizing i j with
 | nil=>simp at hi
 | cons x xs ih =>
  have hx:∀ (k:Nat) (y:Oper),xs[k]? = some y→y.dst=some t→x.dst≠some t:=fun k y hk hy hxt=>by
   simp only [List.filterMap_cons,hxt,List.nodup_cons] at hn;exact hn.1 (List.mem_filterMap.2 ⟨y,List.mem_of_getElem? hk,hy⟩)
  have hn':(xs.filterMap (·.dst)).Nodup:=by
   rw [List.filterMap_cons] at hn;split at hn
   · exact hn
   · exact (List.nodup_cons.1 hn).2
  cases i with
  | zero =>
   simp at hi;subst hi;cases j with
   | zero=>rfl
   | succ j=>exact absurd h (hx j o' (by simpa using hj) h')
  | succ i =>
   cases j with
   | zero=>simp at hj;subst hj;exact absurd h' (hx i o (by simpa using hi) h)
   | succ j=>exact congrArg Nat.succ (ih hn' (by simpa using hi) (by simpa using hj))
theorem zBb (h:zCX ops t=some j):∃ o,ops[j]? = some o∧o.dst=some t:=by
 unfold zCX at h;obtain ⟨hlt,hp,_⟩:=List.findIdx?_eq_some_iff_getElem.1 h;exact ⟨ops[j],by simp [hlt],by simpa using hp⟩
theorem zDO (h:zCX ops t=none):∀ (i:Nat) (o:Oper),ops[i]? = some o→o.dst≠some t:=fun i o hi e=>by
 unfold zCX at h;have:=List.findIdx?_eq_none_iff.1 h o (List.mem_of_getElem? hi);simp [e] at this
theorem zIY {o:Oper} {a:Act} (hN:a.tmps.size=N) (hdst:∀ (i:Nat) (o:Oper) (d:Nat),ops[i]? = some o→o.dst=some d→d<N) :
 Region.wanted o (yielded ops.toArray a.tmps)=(match o.guard with
  | none=>true
  | some (j,want)=>match (ops[j]?).bind (·.dst) with
   | some t=>yes want (a.tmps.getD t undef)
   | none=>false):=by
 unfold Region.wanted;cases hg:o.guard with
 | none=>rfl
 | some gw =>
  obtain ⟨j,want⟩:=gw;simp only [yielded,List.getElem?_toArray];cases hj:ops[j]? with
  | none=>simp
  | some oj =>
   cases ht:oj.dst with
   | none=>simp [ht]
   | some t =>
    have hlt:=hdst j oj t hj ht;rw [← hN] at hlt;simp only [Option.bind_some,ht];rw [Array.getElem?_eq_getElem hlt];have:a.tmps.getD t undef=a.tmps[t]:=by simp [hlt]
    rw [this];cases a.tmps[t]<;>simp [yes]
theorem getD_replicate_false' (m j:Nat):(Array.replicate m false).getD j false=false:=by
 rcases Nat.lt_or_ge j m with h | h<;>simp [h]
section step
theorem step_inv (hok:zAO ops Φs ρ ss N=true) (hΦ:∀ i,∀ v w w',ExtS (ss.map (·.blk)) w0 w→ExtS (ss.map (·.blk)) w w'→phi Φs i v w→phi Φs i v w')
 (hst:∀ s∈ss,∀ w w',ExtS (ss.map (·.blk)) w0 w→ExtS (ss.map (·.blk)) w w'→w'.heap[s.blk]? = w.heap[s.blk]?→(s.pre w→s.pre w')∧(s.post w→s.post w'))
 (hblk:∀ s∈ss,s.blk<w0.heap.size) (hbn:(ss.map (·.blk)).Nodup)
 (hobl:Obls P r ops Φs ρ w0 ss 0 ops) {a:Act} (inv:Inv (ops:=ops) (Φs:=Φs) (ρ:=ρ) (w0:=w0) (ss:=ss) N δ listed a w)
 (hi:i∈Region.ready .any ops.toArray listed) {Q:Exit→Act→World→Prop} {K:Act→World→Prop}
 (hK:∀ a' w',Inv (ops:=ops) (Φs:=Φs) (ρ:=ρ) (w0:=w0) (ss:=ss) N δ (listed.setIfInBounds i true) a' w'→K a' w') :
 wpOpIn (W r) 0 P ops.toArray Q i K a w:=by
 simp only [zAO,Bool.and_eq_true,List.all_eq_true,decide_eq_true_eq,List.mem_range] at hok;obtain ⟨⟨⟨⟨⟨hD,hlen⟩,hnd⟩,hss⟩,hsn⟩,hops⟩:=hok;obtain ⟨hun,o,ho,hall⟩:=mem_ready.1 hi;have ho':ops[i]? = some o:=by simpa using ho
 have hilt:i<ops.length:=(List.getElem?_eq_some_iff.1 ho').1;have hunf:listed.getD i false=false:=by
  rcases Nat.lt_or_ge i listed.size with h | h
  · simp [h] at hun ⊢;exact hun
  · rw [inv.size] at h;omega
 have hdst:∀ (i:Nat) (o:Oper) (d:Nat),ops[i]? = some o→o.dst=some d→d<N:=fun j oj d hj hd=>by
  have hjlt:=(List.getElem?_eq_some_iff.1 hj).1;have:=hops j hjlt;rw [hj] at this;simp only [Bool.and_eq_true,hd,decide_eq_true_eq] at this;exact this.1.1.1
 have hoi:=hops i hilt;rw [ho'] at hoi;simp only [Bool.and_eq_true,List.all_eq_true] at hoi;obtain ⟨⟨⟨hoN,hsel0⟩,_⟩,hsee⟩:=hoi;have hsel:∀ cs b,o.op≠.select cs b:=fun cs b e=>by rw [e] at hsel0;cases hsel0
 have hdef:∀ c,o.op≠.defer c:=fun c e=>by rw [e] at hsel0;cases hsel0
 have hwait:∀ j,waits ops i j=true→listed.getD j false=true:=fun j hj=>by
  unfold waits at hj;rw [ho'] at hj;obtain ⟨e,he,hb⟩:=List.any_eq_true.1 hj;simp only [Bool.and_eq_true,beq_iff_eq] at hb;rw [← hb.2];exact hall e (by simpa using he) hb.1
 have hlater:∀ j,waits ops j i=true→listed.getD j false=false:=fun j hj=>by
  cases hl:listed.getD j false with
  | false=>rfl
  | true=>have:=inv.closed j i hl hj;rw [hunf] at this;cases this
 -- what is known of the slots that are seen
 have hknow:∀ t∈seesL ops o,KnowT ops Φs ρ w i t (a.tmps.getD t undef):=fun t ht=>by
  have h1:=hsee t ht;unfold KnowT;cases hwr:zCX ops t with
  | none =>
   rw [hwr] at h1;exact inv.base t (by simpa using h1) (fun k ok hk _=>zDO hwr k ok hk)
  | some j =>
   obtain ⟨oj,hoj,hdj⟩:=zBb hwr;rw [hwr] at h1;simp only [Bool.or_eq_true,Bool.and_eq_true] at h1;simp only [];by_cases hw:waits ops i j=true
   · rw [if_pos hw];have hf:ss.find? (fun s=>s.idx==j)=none:=by
      rw [List.find?_eq_none];intro s hs hsj;have:=hss s hs;rw [beq_iff_eq] at hsj;rw [hsj,hoj] at this;simp [hdj] at this
     obtain ⟨v,hv,he⟩:=inv.vals j oj hoj (hwait j hw) hf;rw [he t hdj];exact hv
   · rw [if_neg hw];rcases h1 with h1 | ⟨h1,h2⟩
     · exact absurd h1 hw
     · refine inv.base t (by simpa using h2) (fun k ok hk hlk hdk => ?_);have hkj:=zCg hnd hk hoj hdk hdj;subst hkj;rcases h1 with h1 | h1
       · rw [hlater k h1] at hlk;cases hlk
       · rw [beq_iff_eq] at h1;subst h1;rw [hunf] at hlk;cases hlk
 have hsk:∀ (l:List StoreSpec),(∀ s∈l,s∈ss)→KnowS ops w i l:=fun l=>by
  induction l with
  | nil=>intro _;trivial
  | cons s l ih =>
   intro hl;refine ⟨?_,ih fun s' hs'=>hl s' (by simp [hs'])⟩;have hs:=inv.stores s (hl s (by simp));split
   · rename_i hw;exact hs.1 (hwait _ hw)
   · split
     · rename_i h2;simp only [Bool.or_eq_true,beq_iff_eq] at h2;rcases h2 with h2 | h2
       · exact hs.2 (h2 ▸ hunf)
       · exact hs.2 (hlater _ h2)
     · trivial
 have hob:=zLp hobl i o ho';rw [Nat.zero_add] at hob;have hob:=hob (fun t=>a.tmps.getD t undef) w inv.ext (zHG hknow) (hsk ss fun _ h=>h);have heval:∀ x,lookσ (fun t=>a.tmps.getD t undef) x=a.eval x:=fun x=>by cases x<;>rfl
 have hclosed':∀ j k,(listed.setIfInBounds i true).getD j false=true→waits ops j k=true→(listed.setIfInBounds i true).getD k false=true:=fun j k hj hw=>by
  by_cases hji:i=j
  · subst hji;exact getD_set_true (hwait k hw)
  · rw [getD_set_ne false hji] at hj;exact getD_set_true (inv.closed j k hj hw)
 have hset:(listed.setIfInBounds i true).getD i false=true:=by
  have:i<listed.size:=by rw [inv.size];exact hilt
  simp [this]
 have hput:∀ v t,o.dst≠some t→(a.put o.dst v).tmps.getD t undef=a.tmps.getD t undef:=fun v t ht=>by
  cases hd:o.dst with
  | none=>rfl
  | some d =>
   have hne:d≠t:=fun e=>ht (by rw [hd,e]);simp [Act.put,Array.getElem?_setIfInBounds_ne hne]
 have hputd:∀ v d,o.dst=some d→(a.put o.dst v).tmps.getD d undef=v:=fun v d hd=>by
  have:=hdst i o d ho' hd;rw [hd];simp [Act.put,inv.tmps,this]
 have hbase':∀ v,∀ t∈dom ρ,(∀ (k:Nat) (ok:Oper),ops[k]? = some ok→(listed.setIfInBounds i true).getD k false=true→ok.dst≠some t)→(a.put o.dst v).tmps.getD t undef=look1 ρ t:=fun v t ht hn=>by
  rw [hput v t (hn i o ho' hset)];exact inv.base t ht (fun k ok hk hlk=>hn k ok hk (getD_set_true hlk))
 have hvals':∀ v w',ExtS (ss.map (·.blk)) w w'→(ss.find? (fun s=>s.idx==i)=none→phi Φs i v w')→∀ (k:Nat) (ok:Oper),ops[k]? = some ok→(listed.setIfInBounds i true).getD k false=true→ss.find? (fun s=>s.idx==k)=none →
  ∃ u,phi Φs k u w'∧∀ d,ok.dst=some d→(a.put o.dst v).tmps.getD d undef=u:=fun v w' hx hv k ok hk hlk hf=>by
  by_cases hki:i=k
  · subst hki;have:ok=o:=Option.some.inj (hk.symm.trans ho');subst this;exact ⟨v,hv hf,fun d hd=>hputd v d hd⟩
  · rw [getD_set_ne false hki] at hlk;obtain ⟨u,hu,he⟩:=inv.vals k ok hk hlk hf;refine ⟨u,hΦ k u w w' inv.ext hx hu,fun d hd => ?_⟩;rw [hput v d (fun e=>hki (zCg hnd ho' hk e hd)),he d hd]
 have hde:∀ v,(a.put o.dst v).defers=δ:=fun v=>by rw [← inv.defers];cases o.dst<;>rfl
 have hsz:∀ v,(a.put o.dst v).tmps.size=N:=fun v=>by rw [← inv.tmps];cases o.dst<;>simp [Act.put]
 -- an operation that is no store
 have normal:∀ v w',Ext w w'→ss.find? (fun s=>s.idx==i)=none→phi Φs i v w'→K (a.put o.dst v) w':=fun v w' hx hf hv=>by
  refine hK _ _ ⟨by simp [inv.size],hclosed',inv.ext.trans (hx.toS _),hde v,hsz v,hvals' v w' (hx.toS _) (fun _=>hv),hbase' v,fun s hs => ?_⟩;have hsi:s.idx≠i:=fun e=>by
   have:=List.find?_eq_none.1 hf s hs;simp [e] at this
  rw [getD_set_ne false (Ne.symm hsi)];have hb:w'.heap[s.blk]? = w.heap[s.blk]? := Below.block hx _ (Nat.lt_of_lt_of_le (hblk s hs) inv.ext.size);have h2:=hst s hs w w' inv.ext (hx.toS _) hb;exact ⟨fun h=>h2.2 ((inv.stores s hs).1 h),fun h=>h2.1 ((inv.stores s hs).2 h)⟩
 have hwant:=zIY (o:=o) inv.tmps hdst;have go0:Obl0 P r Φs ss i o (fun t=>a.tmps.getD t undef) w→o.wpIn (W r) 0 P a w K Q:=fun h=>by
  unfold Obl0 at h;cases hf:ss.find? (fun s=>s.idx==i) with
  | none =>
   rw [hf] at h;refine (Runs.congr hsel hdef (fun x _=>heval x) h).wpIn ?_;rintro v w' ⟨hx,hv⟩;exact normal v w' hx hf hv
  | some s =>
   rw [hf] at h;have hs:s∈ss:=List.mem_of_find?_eq_some hf;have hsi:s.idx=i:=by simpa using List.find?_some hf
   refine (Runs.congr hsel hdef (fun x _=>heval x) h).wpIn ?_;rintro v w' ⟨hu,hp⟩;have hmem:s.blk∈ss.map (·.blk):=List.mem_map.2 ⟨s,hs,rfl⟩
   have hx:ExtS (ss.map (·.blk)) w w':=hu.toS hmem
   refine hK _ _ ⟨by simp [inv.size],hclosed',inv.ext.trans hx,hde v,hsz v,hvals' v w' hx (fun h0=>by rw [hf] at h0;cases h0),hbase' v,fun s' hs' => ?_⟩;by_cases hsi':s'.idx=i
   · have:s'=s:=by
      have:=(List.pairwise_map.1 (show ((ss.map (·.idx))).Pairwise (· ≠ ·) from hsn))
      exact Classical.byContradiction fun hne=>by
       rcases List.getElem_of_mem hs with ⟨x,hx1,hx2⟩;rcases List.getElem_of_mem hs' with ⟨y,hy1,hy2⟩;have hxy:x≠y:=fun e=>hne (by subst e;rw [← hx2,← hy2]);rcases Nat.lt_or_gt_of_ne hxy with h3 | h3
       · have:=(List.pairwise_iff_getElem.1 this) x y hx1 hy1 h3;rw [hx2,hy2] at this;exact this (hsi.trans hsi'.symm)
       · have:=(List.pairwise_iff_getElem.1 this) y x hy1 hx1 h3;rw [hx2,hy2] at this;exact this (hsi'.trans hsi.symm)
     subst this;rw [hsi',hset];exact ⟨fun _=>hp,fun h=>by cases h⟩
   · rw [getD_set_ne false (Ne.symm hsi')];have hne:s'.blk≠s.blk:=fun e=>by
      have hss':s'≠s:=fun e=>hsi' (e ▸ hsi);rcases List.getElem_of_mem hs with ⟨x,hx1,hx2⟩
      rcases List.getElem_of_mem hs' with ⟨y,hy1,hy2⟩;have hxy:x≠y:=fun e=>hss' (by subst e;rw [← hx2,← hy2]);have hpw:=List.pairwise_map.1 (show ((ss.map (·.blk))).Pairwise (· ≠ ·) from hbn)
      rcases Nat.lt_or_gt_of_ne hxy with h3 | h3
      · have:=(List.pairwise_iff_getElem.1 hpw) x y hx1 hy1 h3;rw [hx2,hy2] at this;exact this e.symm
      · have:=(List.pairwise_iff_getElem.1 hpw) y x hy1 hx1 h3;rw [hx2,hy2] at this;exact this e
     have h2:=hst s' hs' w w' inv.ext hx (hu.block _ hne);exact ⟨fun h=>h2.2 ((inv.stores s' hs').1 h),fun h=>h2.1 ((inv.stores s' hs').2 h)⟩
 unfold wpOpIn;simp only [List.getElem?_toArray,ho'];cases hg:o.guard with
 | none =>
  rw [hg] at hob hwant;simp only at hob hwant;rw [hwant];simp only [if_true];exact go0 hob
 | some gw =>
  obtain ⟨j,want⟩:=gw;rw [hg] at hob hwant;simp only at hob hwant;have hnost:ss.find? (fun s=>s.idx==i)=none:=by
   rw [List.find?_eq_none];intro s hs hsj;have:=hss s hs;rw [beq_iff_eq] at hsj;rw [hsj,ho'] at this;simp [hg] at this
  cases hj:(ops[j]?).bind (·.dst) with
  | none=>rw [hj] at hob;exact hob.elim
  | some t =>
   rw [hj] at hob hwant;simp only at hob hwant;by_cases hb:a.tmps.getD t undef = .bool want
   · rw [hb] at hwant;simp only [yes,beq_self_eq_true] at hwant;rw [hwant];simp only [if_true];exact go0 (hob.1 hb)
   · rw [hwant,zKx hb];simp only [Bool.false_eq_true,if_false];exact ⟨fun _ _=>trivial,normal undef w (Ext.refl w) hnost (hob.2 hb)⟩
theorem zIg (hok:zAO ops Φs ρ ss N=true) (hΦ:∀ i,∀ v w w',ExtS (ss.map (·.blk)) w0 w→ExtS (ss.map (·.blk)) w w'→phi Φs i v w→phi Φs i v w')
 (hst:∀ s∈ss,∀ w w',ExtS (ss.map (·.blk)) w0 w→ExtS (ss.map (·.blk)) w w'→w'.heap[s.blk]? = w.heap[s.blk]?→(s.pre w→s.pre w')∧(s.post w→s.post w'))
 (hblk:∀ s∈ss,s.blk<w0.heap.size) (hbn:(ss.map (·.blk)).Nodup)
 (hobl:Obls P r ops Φs ρ w0 ss 0 ops) {Q:Exit→Act→World→Prop}
 (hQ:∀ listed a w,Inv (ops:=ops) (Φs:=Φs) (ρ:=ρ) (w0:=w0) (ss:=ss) N δ listed a w→Region.ready .any ops.toArray listed=[]→Q .normal a w) :
 ∀ (fuel:Nat) (listed:Array Bool) (a:Act) (w:World),(List.range ops.length).countP (fun j => !listed.getD j false)≤fuel→Inv (ops:=ops) (Φs:=Φs) (ρ:=ρ) (w0:=w0) (ss:=ss) N δ listed a w→wpAnyIn (W r) 0 P .any ops.toArray Q fuel listed a w
 | 0,listed,a,w,hf,inv=>by
  have hready:Region.ready .any ops.toArray listed=[]:=by
   rw [List.eq_nil_iff_forall_not_mem];intro i hi;obtain ⟨hun,o,ho,_⟩:=mem_ready.1 hi;have hilt:i<ops.length:=(List.getElem?_eq_some_iff.1 (by simpa using ho)).1;have h0:(List.range ops.length).countP (fun j => !listed.getD j false)=0:=by omega
   rw [List.countP_eq_zero] at h0;have:=h0 i (List.mem_range.2 hilt);have hlt:i<listed.size:=by rw [inv.size];exact hilt
   simp [hlt] at this hun;rw [hun] at this;cases this
  exact ⟨hready,hQ listed a w inv hready⟩
 | fuel+1,listed,a,w,hf,inv=>by
  refine ⟨fun h=>hQ listed a w inv h,fun i hi => ?_⟩;refine step_inv hok hΦ hst hblk hbn hobl inv hi fun a' w' inv'=>zIg hok hΦ hst hblk hbn hobl hQ fuel _ a' w' ?_ inv';obtain ⟨hun,o,ho,_⟩:=mem_ready.1 hi;have hilt:i<ops.length:=(List.getElem?_eq_some_iff.1 (by simpa using ho)).1;have hlt:i<listed.size:=by rw [inv.size];exact hilt
  have hunf:listed.getD i false=false:=by simp [hlt] at hun ⊢;exact hun
  have key:∀ (l:List Nat),l.Nodup→i∈l→l.countP (fun j => !(listed.setIfInBounds i true).getD j false)+1≤l.countP (fun j => !listed.getD j false):=by
   intro l
   induction l with
   | nil=>intro _ h;cases h
   | cons x l ih =>
    intro hnd hm;rw [List.nodup_cons] at hnd;rw [List.countP_cons,List.countP_cons];by_cases hx:i=x
    · subst hx;have h1:(listed.setIfInBounds i true).getD i false=true:=by simp [hlt]
      rw [h1,hunf];have hle:l.countP (fun j => !(listed.setIfInBounds i true).getD j false)≤l.countP (fun j => !listed.getD j false):=by
       apply List.countP_mono_left;intro j _ hj;cases hlj:listed.getD j false with
       | false=>rfl
       | true=>rw [getD_set_true hlj] at hj;cases hj
      simp only [Bool.not_true,Bool.not_false,Bool.false_eq_true,if_false,if_true];omega
    · have hm':i∈l:=by
       rcases List.mem_cons.1 hm with h | h
       · exact absurd h hx
       · exact h
      rw [getD_set_ne false hx];have:=ih hnd.2 hm';omega
  have:=key _ List.nodup_range (List.mem_range.2 hilt);omega
theorem zEz (hs:listed.size=ops.length) (hback:∀ j i,waits ops j i=true→i<j) (h:Region.ready .any ops.toArray listed=[]):∀ j,j<ops.length→listed.getD j false=true:=by
 intro j
 induction j using Nat.strongRecOn with
 | _ j ih =>
  intro hj;cases hl:listed.getD j false with
  | true=>rfl
  | false =>
   exfalso;have hmem:j∈Region.ready .any ops.toArray listed:=by
    refine mem_ready.2 ⟨?_,ops[j],by simp [hj],fun e he hb => ?_⟩
    · have:j<listed.size:=by rw [hs];exact hj
      simp [this] at hl ⊢;exact hl
    · have hw:waits ops j e.on=true:=by
       unfold waits;simp only [List.getElem?_eq_getElem hj];exact List.any_eq_true.2 ⟨e,by simpa using he,by simp [hb]⟩
      have hlt:=hback _ _ hw;exact ih _ hlt (by omega)
   rw [h] at hmem;cases hmem
theorem zDj:∀ (os:List Oper) (Ψs:List (Value→World→Prop)) (ρ':Env) (w:World) (K:Env→Prop),Ψs.length=os.length→zBA Ψs os ρ' w K →
 ∀ (vs:Nat→Value),(∀ k (Ψ:Value→World→Prop),Ψs[k]? = some Ψ→Ψ (vs k) w)→∃ ρ'',K ρ''∧ρ''=((os.zipIdx).foldl (fun ρ (p:Oper×Nat)=>ext ρ p.1.dst (vs p.2)) ρ'):=by
 intro os
 suffices H:∀ (os:List Oper) (n:Nat) (Ψs:List (Value→World→Prop)) (ρ':Env) (w:World) (K:Env→Prop),Ψs.length=os.length→zBA Ψs os ρ' w K →
  ∀ (vs:Nat→Value),(∀ k (Ψ:Value→World→Prop),Ψs[k]? = some Ψ→Ψ (vs (n+k)) w)→∃ ρ'',K ρ''∧ρ''=((os.zipIdx n).foldl (fun ρ (p:Oper×Nat)=>ext ρ p.1.dst (vs p.2)) ρ') by
  intro Ψs ρ' w K hl hf vs hv;exact H os 0 Ψs ρ' w K hl hf vs (fun k Ψ hk=>by rw [Nat.zero_add];exact hv k Ψ hk)
 intro os
 induction os with
 | nil =>
  intro n Ψs ρ' w K hl hf vs hv;cases Ψs with
  | nil=>exact ⟨ρ',hf,rfl⟩
  | cons=>simp at hl
 | cons o os ih =>
  intro n Ψs ρ' w K hl hf vs hv;cases Ψs with
  | nil=>simp at hl
  | cons Ψ Ψs =>
   have h1:=hf (vs n) (hv 0 Ψ rfl);obtain ⟨ρ'',hk,he⟩:=ih (n+1) Ψs _ w K (by simpa using hl) h1 vs (fun k Ψ' hk=>by have:=hv (k+1) Ψ' (by simpa using hk);rwa [show n+(k+1)=n+1+k by omega] at this);exact ⟨ρ'',hk,by rw [he,List.zipIdx_cons,List.foldl_cons]⟩
theorem zCa (vs:Nat→Value):∀ (os:List Oper) (n:Nat) (ρ:Env),(os.filterMap (·.dst)).Nodup →
 (∀ t,t∈dom ((os.zipIdx n).foldl (fun ρ (p:Oper×Nat)=>ext ρ p.1.dst (vs p.2)) ρ)→t∈dom ρ∨∃ (k:Nat) (o:Oper),os[k]? = some o∧o.dst=some t) ∧
 (∀ (k:Nat) (o:Oper) (t:Nat),os[k]? = some o→o.dst=some t→look1 ((os.zipIdx n).foldl (fun ρ (p:Oper×Nat)=>ext ρ p.1.dst (vs p.2)) ρ) t=vs (n+k)) ∧
 (∀ t,(∀ (k:Nat) (o:Oper),os[k]? = some o→o.dst≠some t)→look1 ((os.zipIdx n).foldl (fun ρ (p:Oper×Nat)=>ext ρ p.1.dst (vs p.2)) ρ) t=look1 ρ t)
 | [],n,ρ,_=>⟨fun t h => .inl h,fun k o t h=>by simp at h,fun t _=>rfl⟩
 | o :: os,n,ρ,hn=>by
  have hn':(os.filterMap (·.dst)).Nodup:=by
   rw [List.filterMap_cons] at hn;split at hn
   · exact hn
   · exact (List.nodup_cons.1 hn).2
  have ho:∀ (k:Nat) (y:Oper) (t:Nat),os[k]? = some y→y.dst=some t→o.dst≠some t:=fun k y t hk hy ht=>by
   simp only [List.filterMap_cons,ht,List.nodup_cons] at hn;exact hn.1 (List.mem_filterMap.2 ⟨y,List.mem_of_getElem? hk,hy⟩)
  obtain ⟨h1,h2,h3⟩:=zCa vs os (n+1) (ext ρ o.dst (vs n)) hn';simp only [List.zipIdx_cons,List.foldl_cons];refine ⟨fun t ht => ?_,fun k x t hk ht => ?_,fun t ht => ?_⟩
  · rcases h1 t ht with h | ⟨k,x,hk,hx⟩
    · cases hd:o.dst with
      | none=>rw [hd] at h;exact .inl h
      | some d =>
       rw [hd] at h;simp only [ext,dom,List.map_cons,List.mem_cons] at h;rcases h with h | h
       · exact .inr ⟨0,o,rfl,by rw [hd,h]⟩
       · exact .inl h
    · exact .inr ⟨k+1,x,by simpa using hk,hx⟩
  · cases k with
    | zero =>
     simp at hk;subst hk;rw [h3 t (fun k y hk hy=>ho k y t hk hy ht),ht];simp [ext,look1]
    | succ k =>
     rw [h2 k x t (by simpa using hk) ht];congr 1;omega
  · rw [h3 t (fun k y hk=>ht (k+1) y (by simpa using hk))];have h0:=ht 0 o rfl;cases hd:o.dst with
    | none=>rfl
    | some d =>
     simp only [ext,look1];rw [if_neg (fun e=>h0 (by rw [hd,e]))]
theorem zJk {w:World}:∀ {l:List StoreSpec},(∀ s∈l,s.post w)→Posts w l
 | [],_=>trivial
 | s :: l,h=>⟨h s (by simp),zJk fun s' hs=>h s' (by simp [hs])⟩
def Monos (S:List Nat) (w0:World):List (Value→World→Prop)→Prop
 | []=>True
 | Φ :: Φs=>(∀ v w w',ExtS S w0 w→ExtS S w w'→Φ v w→Φ v w')∧Monos S w0 Φs
def zFm (S:List Nat) (w0:World) (Φs:List (Value→World→Prop)):List StoreSpec→Prop
 | []=>True
 | s :: ss=>(s.blk<w0.heap.size∧s.pre w0∧(∀ v w,phi Φs s.idx v w)∧∀ w w',ExtS S w0 w→ExtS S w w'→w'.heap[s.blk]? = w.heap[s.blk]?→(s.pre w→s.pre w')∧(s.post w→s.post w'))∧zFm S w0 Φs ss
theorem zDF {S:List Nat} {w0:World}:∀ {l:List (Value→World→Prop)},Monos S w0 l→∀ i,∀ v w w',ExtS S w0 w→ExtS S w w'→phi l i v w→phi l i v w'
 | [],_,i,v,w,w',_,_,h=>by simp [phi]
 | Φ :: l,hm,0,v,w,w',h1,h2,h=>hm.1 v w w' h1 h2 h
 | Φ :: l,hm,i+1,v,w,w',h1,h2,h=>zDF hm.2 i v w w' h1 h2 h
theorem zDw {S:List Nat} {w0:World}:∀ {l:List StoreSpec},zFm S w0 Φs l→∀ s∈l,s.blk<w0.heap.size∧s.pre w0∧(∀ v w,phi Φs s.idx v w)∧∀ w w',ExtS S w0 w→ExtS S w w'→w'.heap[s.blk]? = w.heap[s.blk]?→(s.pre w→s.pre w')∧(s.post w→s.post w')
 | s :: l,hs,s',h=>by
  rcases List.mem_cons.1 h with rfl | h
  · exact hs.1
  · exact zDw hs.2 s' h
def zBX (ops:List Oper):Bool:=(List.range ops.length).all fun j=>match ops[j]? with | some o=>o.after.toList.all (fun e => !Region.binds .any e || decide (e.on<j)) | none=>true
theorem zGV (ss:List StoreSpec) (Φs:List (Value→World→Prop)) (hm:P.follows .mixedOrders=true) (hok:zAO ops Φs ρ ss N=true) (hbk:zBX ops=true) (hbn:(ss.map (·.blk)).Nodup)
 (hmono:Monos (ss.map (·.blk)) w0 Φs) (hst:zFm (ss.map (·.blk)) w0 Φs ss) (hobl:Obls P r ops Φs ρ w0 ss 0 ops)
 (hfin:∀ w',ExtS (ss.map (·.blk)) w0 w'→Posts w' ss→zBA Φs ops ρ w' (fun ρ'=>Q .normal ρ' δ w')):WPE P r N (.region id ops.toArray true) Q δ ρ w0:=fun a hf hd=>by
 have hdrawn:ExtS (ss.map (·.blk)) w0 { w0 with drawn:=w0.drawn+1 }:=(Ext.drawn _).toS _
 have hback:∀ j i,waits ops j i=true→i<j:=fun j i hw=>by
  unfold waits at hw;cases hj:ops[j]? with
  | none=>rw [hj] at hw;cases hw
  | some o =>
   rw [hj] at hw;obtain ⟨e,he,hb⟩:=List.any_eq_true.1 hw;simp only [Bool.and_eq_true,beq_iff_eq] at hb;have hjl:=(List.getElem?_eq_some_iff.1 hj).1;simp only [zBX,List.all_eq_true,List.mem_range] at hbk;have:=hbk j hjl;rw [hj] at this;have:=List.all_eq_true.1 this e he;simp [hb.1] at this;omega
 have hok':=hok;simp only [zAO,Bool.and_eq_true,decide_eq_true_eq] at hok';obtain ⟨⟨⟨⟨⟨hD,hlen⟩,hnd⟩,_⟩,_⟩,hops⟩:=hok';refine wpIn_region_any hm ?_;refine zIg (δ:=δ) (N:=N) (Q:=lift N Q) hok (zDF hmono) (fun s hs=>(zDw hst s hs).2.2.2) (fun s hs=>(zDw hst s hs).1) hbn hobl ?_ ops.toArray.size (Array.replicate ops.toArray.size false) a _ ?_ ?_
 · intro listed a' w' inv hr;have hall:=zEz inv.size hback hr;have hposts:Posts w' ss:=zJk fun s hs=>(inv.stores s hs).1 (by
    have:s.idx<ops.length:=by
     simp only [zAO,Bool.and_eq_true,List.all_eq_true] at hok;have:=hok.1.1.2 s hs;cases hx:ops[s.idx]? with
     | none=>rw [hx] at this;cases this
     | some o=>exact (List.getElem?_eq_some_iff.1 hx).1
    exact hall _ this)
   have hex:∀ (i:Nat),∃ v:Value,(∀ (Ψ:Value→World→Prop),Φs[i]? = some Ψ→Ψ v w')∧∀ (o:Oper) (d:Nat),ops[i]? = some o→o.dst=some d→a'.tmps.getD d undef=v:=fun i=>by
    cases ho:ops[i]? with
    | none =>
     have:Φs[i]? = none:=by rw [List.getElem?_eq_none_iff] at ho ⊢;omega
     exact ⟨undef,(fun Ψ h=>by rw [this] at h;cases h),(fun o d h=>by cases h)⟩
    | some o =>
     have hil:=(List.getElem?_eq_some_iff.1 ho).1;cases hfs:ss.find? (fun s=>s.idx==i) with
     | none =>
      obtain ⟨v,hv,he⟩:=inv.vals i o ho (hall i hil) hfs;refine ⟨v,fun Ψ h => ?_,fun o' d ho' hd => ?_⟩
      · have:phi Φs i=Ψ:=by simp [phi,h]
        rw [← this];exact hv
      · cases ho';exact he d hd
     | some s =>
      have hs:=List.mem_of_find?_eq_some hfs;have hsi:s.idx=i:=by simpa using List.find?_some hfs
      refine ⟨undef,fun Ψ h => ?_,fun o' d ho' hd => ?_⟩
      · have h2:=(zDw hst s hs).2.2.1 undef w';have:phi Φs i=Ψ:=by simp [phi,h]
        rw [hsi,this] at h2;exact h2
      · cases ho';simp only [zAO,Bool.and_eq_true,List.all_eq_true] at hok;have:=hok.1.1.2 s hs;rw [hsi,ho] at this;simp [hd] at this
   obtain ⟨vs,hvs⟩:=Classical.axiomOfChoice hex;obtain ⟨ρ'',hk,he⟩:=zDj ops Φs ρ w' _ hlen (hfin w' inv.ext hposts) vs (fun k Ψ h=>(hvs k).1 Ψ h);obtain ⟨l1,l2,l3⟩:=zCa vs ops 0 ρ hnd;refine ⟨ρ'',⟨inv.tmps,fun t ht => ?_⟩,by rw [inv.defers];exact hk⟩;rw [he] at ht ⊢;by_cases hw:∃ (k:Nat) (o:Oper),ops[k]? = some o∧o.dst=some t
   · obtain ⟨k,o,hk,ho⟩:=hw;rw [l2 k o t hk ho,Nat.zero_add];exact (hvs k).2 o t hk ho
   · have hno:∀ (k:Nat) (o:Oper),ops[k]? = some o→o.dst≠some t:=fun k o hk ho=>hw ⟨k,o,hk,ho⟩;rw [l3 t hno];rcases l1 t ht with h | ⟨k,o,hk,ho⟩
     · exact inv.base t h (fun k o hk _=>hno k o hk)
     · exact absurd ho (hno k o hk)
 · exact Nat.le_trans List.countP_le_length (by simp)
 · refine ⟨by simp,fun j i h => ?_,hdrawn,hd,hf.size,fun i o _ h => ?_,fun t ht _=>hf.at_ t ht,fun s hs=>⟨fun h => ?_,fun _ => ?_⟩⟩
   · rw [getD_replicate_false'] at h;cases h
   · rw [getD_replicate_false'] at h;cases h
   · rw [getD_replicate_false'] at h;cases h
   · obtain ⟨h1,h2,_,h3⟩:=zDw hst s hs;exact (h3 w0 _ (ExtS.refl _ _) hdrawn rfl).1 h2
def qRun (P:Program) (r:Option Nat) (w0:World) (ops:List Oper):List Oper→Env→(Env→Prop)→Prop
 | [],ρ,K=>K ρ
 | o :: os,ρ,K=>∃ v,(if zBV ops o ρ=true then ∀ w,Ext w0 w→Runs P r o (look ρ) w (fun v' w'=>v'=v∧Ext w w') else v=undef)∧qRun P r w0 ops os (ext ρ o.dst v) K
def envAt (ops:List Oper) (vs:List Value) (ρ:Env) (i:Nat):Env:=((ops.take i).zip vs).foldl (fun ρ p=>ext ρ p.1.dst p.2) ρ
theorem zIE {K:Env→Prop}:∀ (os:List Oper) (ρ:Env),qRun P r w0 ops os ρ K→∃ vs:List Value,vs.length=os.length∧K (envAt os vs ρ os.length) ∧
 ∀ (i:Nat) (o:Oper),os[i]? = some o→(if zBV ops o (envAt os vs ρ i)=true then ∀ w,Ext w0 w→Runs P r o (look (envAt os vs ρ i)) w (fun v' w'=>v'=vs.getD i undef∧Ext w w') else vs.getD i undef=undef)
 | [],ρ,h=>⟨[],rfl,h,fun i o ho=>by simp at ho⟩
 | o :: os,ρ,⟨v,hv,h⟩=>by
  obtain ⟨vs,h1,h2,h3⟩:=zIE os _ h;refine ⟨v :: vs,by simp [h1],?_,fun i o' ho => ?_⟩
  · simpa [envAt] using h2
  · cases i with
    | zero =>
     simp at ho;subst ho;simpa [envAt] using hv
    | succ i =>
     have:=h3 i o' (by simpa using ho);simpa [envAt] using this
theorem zGa (vs:List Value):∀ (os:List Oper) (vs:List Value) (ρ:Env) (i:Nat),vs.length=os.length→i≤os.length→(os.filterMap (·.dst)).Nodup →
 (∀ (j:Nat) (o:Oper) (t:Nat),j<i→os[j]? = some o→o.dst=some t→look1 (envAt os vs ρ i) t=vs.getD j undef) ∧
 (∀ t,(∀ (j:Nat) (o:Oper),j<i→os[j]? = some o→o.dst≠some t)→look1 (envAt os vs ρ i) t=look1 ρ t)
 | [],vs,ρ,i,hl,hi,hn=>by
  have:i=0:=by simpa using hi
  subst this;exact ⟨fun j o t hj=>by omega,fun t _=>rfl⟩
 | o :: os,[],ρ,i,hl,hi,hn=>by simp at hl
 | o :: os,v :: vs',ρ,0,hl,hi,hn=>⟨fun j o t hj=>by omega,fun t _=>rfl⟩
 | o :: os,v :: vs',ρ,i+1,hl,hi,hn=>by
  have hn':(os.filterMap (·.dst)).Nodup:=by
   rw [List.filterMap_cons] at hn;split at hn
   · exact hn
   · exact (List.nodup_cons.1 hn).2
  have ho:∀ (k:Nat) (y:Oper) (t:Nat),os[k]? = some y→y.dst=some t→o.dst≠some t:=fun k y t hk hy ht=>by
   simp only [List.filterMap_cons,ht,List.nodup_cons] at hn;exact hn.1 (List.mem_filterMap.2 ⟨y,List.mem_of_getElem? hk,hy⟩)
  obtain ⟨h1,h2⟩:=zGa vs os vs' (ext ρ o.dst v) i (by simpa using hl) (by simpa using hi) hn';have he:envAt (o :: os) (v :: vs') ρ (i+1)=envAt os vs' (ext ρ o.dst v) i:=by simp [envAt]
  rw [he];refine ⟨fun j y t hj hy ht => ?_,fun t ht => ?_⟩
  · cases j with
    | zero =>
     simp at hy;subst hy;rw [h2 t (fun k z hk hz hzt=>ho k z t hz hzt ht),ht];simp [ext,look1]
    | succ j=>rw [h1 j y t (by omega) (by simpa using hy) ht];simp
  · rw [h2 t (fun k z hk hz=>ht (k+1) z (by omega) (by simpa using hz))];have h0:=ht 0 o (by omega) rfl;cases hd:o.dst with
    | none=>rfl
    | some d=>simp only [ext,look1];rw [if_neg (fun e=>h0 (by rw [hd,e]))]
theorem zGg:∀ (os:List Oper) (k:Nat),(∀ (i:Nat) (o:Oper),os[i]? = some o→Obl1 P r ops Φs ρ w0 ss (k+i) o)→Obls P r ops Φs ρ w0 ss k os
 | [],_,_=>trivial
 | o :: os,k,h=>⟨h 0 o rfl,zGg os (k+1) fun i o' ho=>by have:=h (i+1) o' (by simpa using ho);rwa [show k+(i+1)=k+1+i by omega] at this⟩
theorem zFw {w:World} {i:Nat} {σ:Nat→Value}:∀ {ts:List Nat},KnowL ops Φs ρ w i σ ts→∀ t∈ts,KnowT ops Φs ρ w i t (σ t)
 | t' :: ts,h,t,ht=>by
  rcases List.mem_cons.1 ht with rfl | ht
  · exact h.1
  · exact zFw h.2 t ht
theorem zEw (hm:P.follows .mixedOrders=true) (hok:zAO ops (ops.map fun _ _ _=>True) ρ [] N=true) (hbk:zBX ops=true)
 (h:∀ K:Env→Prop,(∀ ρ',(∀ w',Ext w0 w'→Q .normal ρ' δ w')→K ρ')→qRun P r w0 ops ops ρ K):WPE P r N (.region id ops.toArray true) Q δ ρ w0:=by
 obtain ⟨vs,hl,hK,hv⟩:=zIE ops ρ (h (fun ρ'=>∀ w',Ext w0 w'→Q .normal ρ' δ w') (fun _ h=>h));have hok':=hok;simp only [zAO,Bool.and_eq_true,decide_eq_true_eq,List.all_eq_true,List.mem_range] at hok';obtain ⟨⟨⟨⟨⟨hD,_⟩,hnd⟩,_⟩,_⟩,hops⟩:=hok';have hphi:∀ i v w,phi (vs.map fun u v (_:World)=>v=u) i v w↔(i<vs.length→v=vs.getD i undef):=fun i v w=>by
  unfold phi;by_cases hi:i<vs.length
  · simp [hi]
  · simp [hi]
 have hback:∀ j i,waits ops j i=true→i<j:=fun j i hw=>by
  unfold waits at hw;cases hj:ops[j]? with
  | none=>rw [hj] at hw;cases hw
  | some o =>
   rw [hj] at hw;obtain ⟨e,he,hb⟩:=List.any_eq_true.1 hw;simp only [Bool.and_eq_true,beq_iff_eq] at hb;have hjl:=(List.getElem?_eq_some_iff.1 hj).1;simp only [zBX,List.all_eq_true,List.mem_range] at hbk;have:=hbk j hjl;rw [hj] at this;have:=List.all_eq_true.1 this e he;simp [hb.1] at this;omega
 refine zGV [] (vs.map fun u v (_:World)=>v=u) hm ?_ hbk (by simp) ?_ trivial (zGg ops 0 fun i o ho => ?_) ?_
 · simp only [zAO,List.length_map,hl] at hok ⊢;exact hok
 · have:∀ l:List Value,Monos [] w0 (l.map fun u v (_:World)=>v=u):=fun l=>by
    induction l with
    | nil=>trivial
    | cons u l ih=>exact ⟨fun _ _ _ _ _ h=>h,ih⟩
   exact this vs
 · rw [Nat.zero_add];intro σ w hE hk _;have hE':Ext w0 w:=hE.toExt;have hil:=(List.getElem?_eq_some_iff.1 ho).1;have hoi:=hops i hil;rw [ho] at hoi;simp only [Bool.and_eq_true,List.all_eq_true] at hoi;obtain ⟨⟨⟨_,hsel0⟩,hgd⟩,hsee⟩:=hoi;have hsel:∀ cs b,o.op≠.select cs b:=fun cs b e=>by rw [e] at hsel0;cases hsel0
   have hdef:∀ c,o.op≠.defer c:=fun c e=>by rw [e] at hsel0;cases hsel0
   obtain ⟨e1,e2⟩:=zGa vs ops vs ρ i hl (Nat.le_of_lt hil) hnd;have hσ:∀ t∈seesL ops o,σ t=look1 (envAt ops vs ρ i) t:=fun t ht=>by
    have h1:=zFw hk t ht;have h2:=hsee t ht;unfold KnowT at h1;cases hwr:zCX ops t with
    | none=>rw [hwr] at h1;rw [h1,e2 t (fun j oj _ hj=>zDO hwr j oj hj)]
    | some j =>
     obtain ⟨oj,hoj,hdj⟩:=zBb hwr;rw [hwr] at h1 h2;simp only [Bool.or_eq_true,Bool.and_eq_true] at h1 h2;by_cases hw:waits ops i j=true
     · rw [if_pos hw,hphi] at h1;have hji:=hback _ _ hw;rw [h1 (by omega),e1 j oj t hji hoj hdj]
     · rw [if_neg hw] at h1;rw [h1,e2 t (fun k ok hk hok hdk => ?_)];have hkj:=zCg hnd hok hoj hdk hdj;subst hkj;rcases h2 with h2 | ⟨h2,_⟩
       · exact hw h2
       · rcases h2 with h2 | h2
         · have:=hback _ _ h2;omega
         · rw [beq_iff_eq] at h2;omega
   have hvi:=hv i o ho;have hrun:(∀ w,Ext w0 w→Runs P r o (look (envAt ops vs ρ i)) w (fun v' w'=>v'=vs.getD i undef∧Ext w w'))→Obl0 P r (vs.map fun u v (_:World)=>v=u) [] i o σ w:=fun h=>by
    unfold Obl0;simp only [List.find?_nil];refine Runs.congr hsel hdef (σ:=look (envAt ops vs ρ i)) (fun x hx => ?_) ((h w hE').mono ?_)
    · cases x with
      | tmp t=>exact (hσ t (List.mem_append_left _ (zCN (by simpa using hx)))).symm
      | _=>rfl
    · rintro v w' ⟨rfl,hx⟩;exact ⟨hx,(hphi _ _ _).2 fun _=>rfl⟩
   cases hg:o.guard with
   | none =>
    simp only [zBV,hg,if_true] at hvi;exact hrun hvi
   | some gw =>
    obtain ⟨j,want⟩:=gw;simp only;have hsg:=hsee;cases hj:(ops[j]?).bind (·.dst) with
    | none =>
     rw [hg] at hgd;simp [hj] at hgd
    | some t =>
     simp only [zBV,hg,hj] at hvi;have ht:=hσ t (by simp [seesL,hg,hj]);rw [← ht] at hvi;simp only;refine ⟨fun hb => ?_,fun hb => ?_⟩
     · rw [hb] at hvi;simp only [yes,beq_self_eq_true,if_true] at hvi;exact hrun hvi
     · rw [hphi];intro _;rw [zKx hb] at hvi;simp only [Bool.false_eq_true,if_false] at hvi;exact hvi.symm
 · intro w' hE _;have hE':Ext w0 w':=hE.toExt;have key:∀ (os:List Oper) (us:List Value) (ρ:Env) (K:Env→Prop),us.length=os.length→K (envAt os us ρ os.length)→zBA (us.map fun u v (_:World)=>v=u) os ρ w' K:=by
    intro os
    induction os with
    | nil=>intro us ρ K hl hk;cases us with | nil=>exact hk | cons=>simp at hl
    | cons o os ih =>
     intro us ρ K hl hk;cases us with
     | nil=>simp at hl
     | cons u us =>
      rintro v rfl;exact ih us _ K (by simpa using hl) (by simpa [envAt] using hk)
   exact key ops vs ρ _ hl (hK w' hE')
def qRunS (P:Program) (r:Option Nat) (w0:World) (b:Nat) (T:TypeId) (cs:List Value) (ops:List Oper):List Oper→Env→(List Value→Env→Prop)→Prop
 | [],_,_=>False
 | o :: os,ρ,K=>match os with
  | []=>∃ cs',(∀ w,Ext w0 w→Blk w b T cs→Runs P r o (look ρ) w (fun _ w'=>Upd b w w'∧Blk w' b T cs'))∧K cs' ρ
  | _ :: _=>∃ v,(if zBV ops o ρ=true then ∀ w,Ext w0 w→Runs P r o (look ρ) w (fun v' w'=>v'=v∧Ext w w') else v=undef)∧qRunS P r w0 b T cs ops os (ext ρ o.dst v) K
theorem zID {b:Nat} {T:TypeId} {cs:List Value} {K:List Value→Env→Prop}:∀ (os:List Oper) (ρ:Env),qRunS P r w0 b T cs ops os ρ K →
 ∃ init last,os=init++[last]∧qRun P r w0 ops init ρ (fun ρ'=>∃ cs',(∀ w,Ext w0 w→Blk w b T cs→Runs P r last (look ρ') w (fun _ w'=>Upd b w w'∧Blk w' b T cs'))∧K cs' ρ')
 | [],_,h=>h.elim
 | [o],ρ,h=>⟨[],o,rfl,h⟩
 | o :: o' :: os,ρ,⟨v,hv,h⟩=>by
  obtain ⟨init,last,e,hq⟩:=zID (o' :: os) _ h;exact ⟨o :: init,last,by rw [e];rfl,v,hv,hq⟩
theorem ExtS.toExt1 (h:ExtS [b] w w') (h1:Blk w b T cs) (h2:Blk w' b T cs):Ext w w' :=
 ⟨h.os,h.tape,h.output,h.size,fun k hk=>by
  by_cases e:k=b
  · subst e;unfold Blk at h1 h2;rw [h1,h2]
  · exact h.block k hk (by simpa using e)⟩
def zNp (ops:List Oper):Bool:=(List.range (ops.length-1)).all fun i=>waits ops (ops.length-1) i
theorem zJM (b:Nat) (hm:P.follows .mixedOrders=true) (hok:zAO ops (ops.map fun _ _ _=>True) ρ [⟨ops.length-1,b,fun _=>True,fun _=>True⟩] N=true) (hbk:zBX ops=true) (hla:zNp ops=true) (hB:Blk w0 b T cs)
 (h:∀ K:List Value→Env→Prop,(∀ cs' ρ',(∀ w',ExtS [b] w0 w'→Blk w' b T cs'→Q .normal ρ' δ w')→K cs' ρ')→qRunS P r w0 b T cs ops ops ρ K):WPE P r N (.region id ops.toArray true) Q δ ρ w0:=by
 obtain ⟨init,last,heq,hq⟩:=zID ops ρ (h (fun cs' ρ'=>∀ w',ExtS [b] w0 w'→Blk w' b T cs'→Q .normal ρ' δ w') (fun _ _ h=>h));obtain ⟨vs,hl,⟨cs',hst,hK⟩,hv⟩:=zIE init ρ hq;have hlen:ops.length=init.length+1:=by rw [heq];simp
 have hgl:ops[init.length]? = some last:=by rw [heq];simp
 have hgi:∀ i,i<init.length→ops[i]? = init[i]? := fun i hi=>by rw [heq,List.getElem?_append_left hi]
 have hn1:ops.length-1=init.length:=by omega
 have hok':=hok;simp only [zAO,Bool.and_eq_true,decide_eq_true_eq,List.all_eq_true,List.mem_range] at hok';obtain ⟨⟨⟨⟨⟨hD,_⟩,hnd⟩,_⟩,_⟩,hops⟩:=hok';have hphi:∀ i v w,phi ((vs.map fun u v (_:World)=>v=u)++[fun _ _=>True]) i v w↔(i<vs.length→v=vs.getD i undef):=fun i v w=>by
  unfold phi;by_cases hi:i<vs.length
  · simp [hi,List.getElem?_append_left]
  · rcases Nat.lt_or_ge vs.length i with h1 | h1
    · simp [hi,List.getElem?_append_right,show (List.length vs)≤i from by omega,show ¬ i-vs.length=0 from by omega]
    · have:i=vs.length:=by omega
      subst this;simp
 have hndi:(init.filterMap (·.dst)).Nodup:=by
  rw [heq,List.filterMap_append] at hnd;exact (List.nodup_append.1 hnd).1
 have hback:∀ j i,waits ops j i=true→i<j:=fun j i hw=>by
  unfold waits at hw;cases hj:ops[j]? with
  | none=>rw [hj] at hw;cases hw
  | some o =>
   rw [hj] at hw;obtain ⟨e,he,hb⟩:=List.any_eq_true.1 hw;simp only [Bool.and_eq_true,beq_iff_eq] at hb;have hjl:=(List.getElem?_eq_some_iff.1 hj).1;simp only [zBX,List.all_eq_true,List.mem_range] at hbk;have:=hbk j hjl;rw [hj] at this;have:=List.all_eq_true.1 this e he;simp [hb.1] at this;omega
 have hss:∀ s∈[(⟨init.length,b,fun w=>Blk w b T cs,fun w=>Blk w b T cs'⟩:StoreSpec)],s=⟨init.length,b,fun w=>Blk w b T cs,fun w=>Blk w b T cs'⟩:=fun s hs=>by simpa using hs
 have hdl:last.dst=none:=by
  simp only [zAO,Bool.and_eq_true,List.all_eq_true] at hok;have:=hok.1.1.2 _ (List.mem_singleton.2 rfl);simp only [hn1,hgl,Bool.and_eq_true] at this;simpa using this.1
 have hgdl:last.guard=none:=by
  simp only [zAO,Bool.and_eq_true,List.all_eq_true] at hok;have:=hok.1.1.2 _ (List.mem_singleton.2 rfl);simp only [hn1,hgl,Bool.and_eq_true] at this;simpa using this.2
 have hwl:∀ i,i<init.length→waits ops init.length i=true:=fun i hi=>by
  simp only [zNp,List.all_eq_true,List.mem_range,hn1] at hla;exact hla i hi
 have hlast:∀ i,waits ops i init.length=false:=fun i=>by
  cases hc:waits ops i init.length with
  | false=>rfl
  | true =>
   have h1:=hback _ _ hc;have h2:i<ops.length:=by
    unfold waits at hc;cases hj:ops[i]? with
    | none=>rw [hj] at hc;cases hc
    | some o=>exact (List.getElem?_eq_some_iff.1 hj).1
   omega
 refine zGV [⟨init.length,b,fun w=>Blk w b T cs,fun w=>Blk w b T cs'⟩] ((vs.map fun u v (_:World)=>v=u)++[fun _ _=>True]) hm ?_ hbk (by simp) ?_ ?_ (zGg ops 0 fun i o ho => ?_) ?_
 · simp only [zAO,List.length_append,List.length_map,hl,hlen,List.length_singleton,Nat.add_sub_cancel,List.all_cons,List.all_nil,List.map_cons,List.map_nil] at hok ⊢;exact hok
 · have:∀ l:List Value,Monos [b] w0 ((l.map fun u v (_:World)=>v=u)++[fun _ _=>True]):=fun l=>by
    induction l with
    | nil=>exact ⟨fun _ _ _ _ _ h=>h,trivial⟩
    | cons u l ih=>exact ⟨fun _ _ _ _ _ h=>h,ih⟩
   exact this vs
 · refine ⟨⟨hB.lt,hB,fun v w=>(hphi _ _ _).2 fun hi=>absurd hi (by simp [hl]),fun w w' _ _ he=>⟨fun h => ?_,fun h => ?_⟩⟩,trivial⟩
   · show w'.heap[b]? = _;rw [he];exact h
   · show w'.heap[b]? = _;rw [he];exact h
 · rw [Nat.zero_add];intro σ w hE hk hS;have hil:=(List.getElem?_eq_some_iff.1 ho).1;have hoi:=hops i hil;rw [ho] at hoi;simp only [Bool.and_eq_true,List.all_eq_true] at hoi;obtain ⟨⟨⟨_,hsel0⟩,hgd⟩,hsee⟩:=hoi;have hsel:∀ cs b,o.op≠.select cs b:=fun cs b e=>by rw [e] at hsel0;cases hsel0
   have hdef:∀ c,o.op≠.defer c:=fun c e=>by rw [e] at hsel0;cases hsel0
   have hBw:Blk w b T cs:=by
    have:=hS.1;simp only [hlast,Bool.false_eq_true,if_false] at this;rcases Nat.lt_or_ge i init.length with h1 | h1
    · rw [if_pos (by simp [hwl i h1])] at this;exact this
    · have:i=init.length:=by omega
      subst this;have:=hS.1;simpa [hlast] using this
   have hE':Ext w0 w:=ExtS.toExt1 hE hB hBw;obtain ⟨e1,e2⟩:=zGa vs init vs ρ (min i init.length) hl (Nat.min_le_right _ _) hndi;have hmin:i≤init.length:=by omega
   rw [Nat.min_eq_left hmin] at e1 e2;have hσ:∀ t∈seesL ops o,σ t=look1 (envAt init vs ρ i) t:=fun t ht=>by
    have h1:=zFw hk t ht;have h2:=hsee t ht;unfold KnowT at h1;cases hwr:zCX ops t with
    | none=>rw [hwr] at h1;rw [h1,e2 t (fun j oj hj1 hj=>zDO hwr j oj (by rw [hgi j (by omega)];exact hj))]
    | some j =>
     obtain ⟨oj,hoj,hdj⟩:=zBb hwr;rw [hwr] at h1 h2;simp only [Bool.or_eq_true,Bool.and_eq_true] at h1 h2;by_cases hw:waits ops i j=true
     · rw [if_pos hw,hphi] at h1;have hji:=hback _ _ hw;rw [h1 (by omega),e1 j oj t hji (by rw [← hgi j (by omega)];exact hoj) hdj]
     · rw [if_neg hw] at h1;rw [h1,e2 t (fun k ok hk hok hdk => ?_)];have hkj:=zCg hnd (by rw [hgi k (by omega)];exact hok) hoj hdk hdj;subst hkj;rcases h2 with h2 | ⟨h2,_⟩
       · exact hw h2
       · rcases h2 with h2 | h2
         · have:=hback _ _ h2;omega
         · rw [beq_iff_eq] at h2;omega
   rcases Nat.lt_or_ge i init.length with hii | hii
   · have hvi:=hv i o (by rw [← hgi i hii];exact ho);have hrun:(∀ w,Ext w0 w→Runs P r o (look (envAt init vs ρ i)) w (fun v' w'=>v'=vs.getD i undef∧Ext w w'))→Obl0 P r ((vs.map fun u v (_:World)=>v=u)++[fun _ _=>True]) [⟨init.length,b,fun w=>Blk w b T cs,fun w=>Blk w b T cs'⟩] i o σ w:=fun h=>by
      unfold Obl0;have:(List.find? (fun s=>s.idx==i) [(⟨init.length,b,fun w=>Blk w b T cs,fun w=>Blk w b T cs'⟩:StoreSpec)])=none:=by
       have hne:init.length≠i:=by omega
       rw [List.find?_cons,show (init.length==i)=false from beq_eq_false_iff_ne.2 hne];rfl
      rw [this];refine Runs.congr hsel hdef (σ:=look (envAt init vs ρ i)) (fun x hx => ?_) ((h w hE').mono ?_)
      · cases x with
        | tmp t=>exact (hσ t (List.mem_append_left _ (zCN (by simpa using hx)))).symm
        | _=>rfl
      · rintro v w' ⟨rfl,hx⟩;exact ⟨hx,(hphi _ _ _).2 fun _=>rfl⟩
     cases hg:o.guard with
     | none =>
      simp only [zBV,hg,if_true] at hvi;exact hrun hvi
     | some gw =>
      obtain ⟨j,want⟩:=gw;simp only;cases hj:(ops[j]?).bind (·.dst) with
      | none =>
       rw [hg] at hgd;simp [hj] at hgd
      | some t =>
       simp only [zBV,hg,hj] at hvi;have ht:=hσ t (by simp [seesL,hg,hj]);rw [← ht] at hvi;simp only;refine ⟨fun hb => ?_,fun hb => ?_⟩
       · rw [hb] at hvi;simp only [yes,beq_self_eq_true,if_true] at hvi;exact hrun hvi
       · rw [hphi];intro _;rw [zKx hb] at hvi;simp only [Bool.false_eq_true,if_false] at hvi;exact hvi.symm
   · have hie:i=init.length:=by omega
     subst hie;rw [hgl] at ho;cases ho;rw [hgdl];simp only;unfold Obl0;have:(List.find? (fun s=>s.idx==init.length) [(⟨init.length,b,fun w=>Blk w b T cs,fun w=>Blk w b T cs'⟩:StoreSpec)])=some ⟨init.length,b,fun w=>Blk w b T cs,fun w=>Blk w b T cs'⟩:=by
      simp [List.find?]
     rw [this];refine Runs.congr hsel hdef (σ:=look (envAt init vs ρ init.length)) (fun x hx => ?_) ((hst w hE' hBw).mono fun _ _ h=>h);cases x with
     | tmp t=>exact (hσ t (List.mem_append_left _ (zCN (by simpa using hx)))).symm
     | _=>rfl
 · intro w' hE hP;have key:∀ (os:List Oper) (us:List Value) (ρ:Env) (K:Env→Prop),us.length=os.length→K (envAt os us ρ os.length)→zBA ((us.map fun u v (_:World)=>v=u)++[fun _ _=>True]) (os++[last]) ρ w' K:=by
    intro os
    induction os with
    | nil=>intro us ρ K hl hk;cases us with | nil=>(intro v _;rw [hdl];exact hk) | cons=>simp at hl
    | cons o os ih =>
     intro us ρ K hl hk;cases us with
     | nil=>simp at hl
     | cons u us =>
      rintro v rfl;exact ih us _ K (by simpa using hl) (by simpa [envAt] using hk)
   have:=key init vs ρ (fun ρ'=>Q .normal ρ' δ w') hl (hK w' hE hP.1);rwa [← heq] at this
theorem qs {o':Oper} {K:List Value→Env→Prop} (hg:zBV ops ⟨dst,op,ty,pos,af,g⟩ ρ=true)
 (hr:∀ wx,Ext w0 wx→Runs P r ⟨dst,op,ty,pos,af,g⟩ (look ρ) wx (fun v' w'=>v'=v∧Ext wx w')) (h:qRunS P r w0 b T cs ops (o' :: os) (ext ρ dst v) K):qRunS P r w0 b T cs ops (⟨dst,op,ty,pos,af,g⟩ :: o' :: os) ρ K :=
 ⟨v,by rw [if_pos hg];exact hr,h⟩
theorem zNL {o:Oper} {K:List Value→Env→Prop} (cs':List Value)
 (hr:∀ wx,Ext w0 wx→Blk wx b T cs→Runs P r o (look ρ) wx (fun _ w'=>Upd b wx w'∧Blk w' b T cs')) (h:K cs' ρ):qRunS P r w0 b T cs ops [o] ρ K :=
 ⟨cs',hr,h⟩
theorem qr {K:Env→Prop} (hg:zBV ops ⟨dst,op,ty,pos,af,g⟩ ρ=true)
 (hr:∀ wx,Ext w0 wx→Runs P r ⟨dst,op,ty,pos,af,g⟩ (look ρ) wx (fun v' w'=>v'=v∧Ext wx w')) (h:qRun P r w0 ops os (ext ρ dst v) K):qRun P r w0 ops (⟨dst,op,ty,pos,af,g⟩ :: os) ρ K :=
 ⟨v,by rw [if_pos hg];exact hr,h⟩
end step
end
variable {K:List (Value→World→Prop)→Prop} {w0:World} {Φs:List (Value→World→Prop)} {ρ:Env}
section
def OblD (P:Program) (r:Option Nat) (ops:List Oper) (Φs:List (Value→World→Prop)) (ρ:Env) (w0:World) (i:Nat) (o:Oper) (Φ:Value→World→Prop):Prop :=
 ∀ (σ:Nat→Value) (w:World),Ext w0 w→KnowL ops Φs ρ w i σ (seesL ops o) →
 match o.guard with
 | none=>Runs P r o (lookσ σ) w (fun v w'=>Ext w w'∧Φ v w')
 | some (j,want)=>match (ops[j]?).bind (·.dst) with
  | some t=>(σ t = .bool want→Runs P r o (lookσ σ) w (fun v w'=>Ext w w'∧Φ v w'))∧(σ t≠.bool want→Φ undef w)
  | none=>False
def dRun (P:Program) (r:Option Nat) (S:List Nat) (ops:List Oper) (ρ:Env) (w0:World):Nat→List Oper→List (Value→World→Prop)→(List (Value→World→Prop)→Prop)→Prop
 | _,[],Φs,K=>K Φs
 | i,o :: os,Φs,K=>∃ Φ:Value→World→Prop,(∀ v w w',ExtS S w0 w→ExtS S w w'→Φ v w→Φ v w')∧OblD P r ops Φs ρ w0 i o Φ∧dRun P r S ops ρ w0 (i+1) os (Φs++[Φ]) K
theorem zCB {Φs Ψs:List (Value→World→Prop)} {w:World} {i:Nat} {σ:Nat→Value} (h:∀ j v,waits ops i j=true→phi Φs j v w→phi Ψs j v w):∀ {ts:List Nat},KnowL ops Φs ρ w i σ ts→KnowL ops Ψs ρ w i σ ts
 | [],_=>trivial
 | t :: ts,hk=>by
  refine ⟨?_,zCB h hk.2⟩;have h1:=hk.1;unfold KnowT at h1 ⊢;cases hw:zCX ops t with
  | none=>rw [hw] at h1;exact h1
  | some j =>
   rw [hw] at h1;simp only at h1 ⊢;by_cases hx:waits ops i j=true
   · rw [if_pos hx] at h1 ⊢;exact h j _ hx h1
   · rw [if_neg hx] at h1 ⊢;exact h1
theorem zFA {S:List Nat} {K:List (Value→World→Prop)→Prop}:∀ (os:List Oper) (k:Nat) (Φs:List (Value→World→Prop)),Φs.length=k→dRun P r S ops ρ w0 k os Φs K →
 ∃ Ψs:List (Value→World→Prop),Ψs.length=os.length∧K (Φs++Ψs)∧Monos S w0 Ψs∧∀ (i:Nat) (o:Oper),os[i]? = some o→OblD P r ops ((Φs++Ψs).take (k+i)) ρ w0 (k+i) o ((Φs++Ψs).getD (k+i) (fun _ _=>True))
 | [],k,Φs,_,h=>⟨[],rfl,by rw [List.append_nil];exact h,trivial,fun i o ho=>by simp at ho⟩
 | o :: os,k,Φs,hl,⟨Φ,hs,hob,h⟩=>by
  obtain ⟨Ψs,h1,h2,h3,h4⟩:=zFA os (k+1) (Φs++[Φ]) (by simp [hl]) h;have e:Φs++[Φ]++Ψs=Φs++(Φ :: Ψs):=by simp
  rw [e] at h2 h4;refine ⟨Φ :: Ψs,by simp [h1],h2,⟨hs,h3⟩,fun i o' ho => ?_⟩;cases i with
  | zero =>
   simp at ho;subst ho;have e1:(Φs++(Φ :: Ψs)).take (k+0)=Φs:=by rw [Nat.add_zero,← hl];simp
   have e2:(Φs++(Φ :: Ψs)).getD (k+0) (fun _ _=>True)=Φ:=by rw [Nat.add_zero,← hl];simp
   rw [e1,e2];exact hob
  | succ i =>
   have:=h4 i o' (by simpa using ho);rwa [show k+1+i=k+(i+1) from by omega] at this
theorem wpe_calls (hm:P.follows .mixedOrders=true) (hok:zAO ops (ops.map fun _ _ _=>True) ρ [] N=true) (hbk:zBX ops=true)
 (h:∀ K:List (Value→World→Prop)→Prop,(∀ Φs,(∀ w',Ext w0 w'→zBA Φs ops ρ w' (fun ρ'=>Q .normal ρ' δ w'))→K Φs)→dRun P r [] ops ρ w0 0 ops [] K):WPE P r N (.region id ops.toArray true) Q δ ρ w0:=by
 obtain ⟨Φs,hl,hK,hmo,hob⟩:=zFA ops 0 [] rfl (h (fun Φs=>∀ w',Ext w0 w'→zBA Φs ops ρ w' (fun ρ'=>Q .normal ρ' δ w')) (fun _ h=>h));rw [List.nil_append] at hK;simp only [List.nil_append,Nat.zero_add] at hob;have hback:∀ j i,waits ops j i=true→i<j:=fun j i hw=>by
  unfold waits at hw;cases hj:ops[j]? with
  | none=>rw [hj] at hw;cases hw
  | some o =>
   rw [hj] at hw;obtain ⟨e,he,hb⟩:=List.any_eq_true.1 hw;simp only [Bool.and_eq_true,beq_iff_eq] at hb;have hjl:=(List.getElem?_eq_some_iff.1 hj).1;simp only [zBX,List.all_eq_true,List.mem_range] at hbk;have:=hbk j hjl;rw [hj] at this;have:=List.all_eq_true.1 this e he;simp [hb.1] at this;omega
 refine zGV [] Φs hm ?_ hbk (by simp) hmo trivial (zGg ops 0 fun i o ho => ?_) ?_
 · simp only [zAO,List.length_map,hl] at hok ⊢;exact hok
 · rw [Nat.zero_add];intro σ w hE hk _;have h1:=hob i o ho σ w hE.toExt (zCB (fun j v hw hp=>by
    have hji:=hback _ _ hw;unfold phi at hp ⊢;simpa [List.getD_eq_getElem?_getD,List.getElem?_take,hji] using hp) hk)
   have hphi:(Φs.getD i fun _ _=>True)=phi Φs i:=rfl;rw [hphi] at h1;cases hg:o.guard with
   | none=>rw [hg] at h1;simp only [Obl0,List.find?_nil] at h1 ⊢;exact h1
   | some gw=>obtain ⟨j,want⟩:=gw;rw [hg] at h1;simp only [Obl0,List.find?_nil] at h1 ⊢;exact h1
 · intro w' hE _;exact hK w' hE.toExt
theorem dc {S:List Nat} (Φ:Value→World→Prop)
 (hs:∀ v w w',ExtS S w0 w→ExtS S w w'→Φ v w→Φ v w')
 (hob:∀ (σ:Nat→Value) (w:World),Ext w0 w→KnowL ops Φs ρ w i σ (seesL ops ⟨dst,op,ty,pos,af,none⟩)→Runs P r ⟨dst,op,ty,pos,af,none⟩ (lookσ σ) w (fun v w'=>Ext w w'∧Φ v w'))
 (h:dRun P r S ops ρ w0 (i+1) os (Φs++[Φ]) K):dRun P r S ops ρ w0 i (⟨dst,op,ty,pos,af,none⟩ :: os) Φs K :=
 ⟨Φ,hs,fun σ w hE hk=>hob σ w hE hk,h⟩
theorem zU {K:Env→Prop} (h:K ρ):zBA [] [] ρ w K:=h
end
variable {u:Value}
abbrev Entry:=List (Nat×Option Nat)×Option (Nat×Bool)
def sight (ops:List Oper) (i:Nat) (ts:List Nat):List (Nat×Option Nat) :=
 ts.map fun t=>(t,match zCX ops t with | some j=>if waits ops i j&&decide (j<i) then some (i-1-j) else none | none=>none)
def zCI (ops:List Oper) (i:Nat) (o:Oper):Option Entry :=
 match o.guard with
 | none=>some (sight ops i (seesL ops o),none)
 | some (j,want)=>match (ops[j]?).bind (·.dst) with
  | some u=>some (sight ops i (seesL ops o),some (u,want))
  | none=>none
def zBS (ops:List Oper):Nat→List Oper→Option (List Entry)
 | _,[]=>some []
 | i,o :: os=>match zCI ops i o,zBS ops (i+1) os with
  | some e,some es=>some (e :: es)
  | _,_=>none
section
def KnowP (Φs:List (Value→World→Prop)) (ρ:Env) (w:World) (σ:Nat→Value):List (Nat×Option Nat)→Prop
 | []=>True
 | (t,some d) :: l=>Φs.getD d (fun _ _=>True) (σ t) w∧KnowP Φs ρ w σ l
 | (t,none) :: l=>σ t=look1 ρ t∧KnowP Φs ρ w σ l
def OblP (P:Program) (r:Option Nat) (ρ:Env) (w0:World) (Φs:List (Value→World→Prop)) (o:Oper) (e:Entry) (Φ:Value→World→Prop):Prop :=
 ∀ (σ:Nat→Value) (w:World),Ext w0 w→KnowP Φs ρ w σ e.1 →
 match e.2 with
 | none=>Runs P r o (lookσ σ) w (fun v w'=>Ext w w'∧Φ v w')
 | some (t,want)=>(σ t = .bool want→Runs P r o (lookσ σ) w (fun v w'=>Ext w w'∧Φ v w'))∧(σ t≠.bool want→Φ undef w)
def dRunP (P:Program) (r:Option Nat) (S:List Nat) (ρ:Env) (w0:World):List Oper→List Entry→List (Value→World→Prop)→(List (Value→World→Prop)→Prop)→Prop
 | [],_,Φs,K=>K Φs
 | o :: os,e :: es,Φs,K=>∃ Φ:Value→World→Prop,(∀ v w w',ExtS S w0 w→ExtS S w w'→Φ v w→Φ v w')∧OblP P r ρ w0 Φs o e Φ∧dRunP P r S ρ w0 os es (Φ :: Φs) K
 | _ :: _,[],_,_=>False
theorem zDU {Φs:List (Value→World→Prop)} {w:World} {i:Nat} {σ:Nat→Value} (hl:Φs.length=i):∀ {ts:List Nat},KnowL ops Φs.reverse ρ w i σ ts→(∀ j,waits ops i j=true→j<i) →
 KnowP Φs ρ w σ (sight ops i ts)
 | [],_,_=>trivial
 | t :: ts,h,hb=>by
  have ih:=zDU hl h.2 hb;have h1:=h.1;unfold KnowT at h1;simp only [sight,List.map_cons] at ih ⊢;cases hw:zCX ops t with
  | none=>rw [hw] at h1;exact ⟨h1,ih⟩
  | some j =>
   rw [hw] at h1;simp only at h1;by_cases hx:waits ops i j=true
   · rw [if_pos hx] at h1;have hj:=hb j hx;simp only [hx,hj,decide_true,Bool.and_self,if_true];refine ⟨?_,ih⟩;unfold phi at h1;have e:Φs.reverse.getD j (fun _ _=>True)=Φs.getD (i-1-j) (fun _ _=>True):=by
      rw [List.getD_eq_getElem?_getD,List.getD_eq_getElem?_getD,List.getElem?_reverse (by omega),hl]
     rw [e] at h1;exact h1
   · rw [if_neg hx] at h1;have:(waits ops i j&&decide (j<i))=false:=by simp [Bool.eq_false_iff.2 hx]
     simp only [this,Bool.false_eq_true,if_false];exact ⟨h1,ih⟩
theorem zDf {S:List Nat} {K:List (Value→World→Prop)→Prop} (hb:∀ j i,waits ops j i=true→i<j):∀ (os:List Oper) (es:List Entry) (i:Nat) (Φs:List (Value→World→Prop)),Φs.length=i→zBS ops i os=some es →
 dRunP P r S ρ w0 os es Φs K→dRun P r S ops ρ w0 i os Φs.reverse (fun Ψ=>K Ψ.reverse)
 | [],es,i,Φs,_,_,h=>by
  show K Φs.reverse.reverse;rw [List.reverse_reverse];exact h
 | o :: os,es,i,Φs,hl,hp,h=>by
  unfold zBS at hp;cases he:zCI ops i o with
  | none=>rw [he] at hp;simp at hp
  | some e =>
   cases hq:zBS ops (i+1) os with
   | none=>rw [he,hq] at hp;simp at hp
   | some es' =>
    rw [he,hq] at hp;simp at hp;subst hp;obtain ⟨Φ,hs,hob,h⟩:=h;refine ⟨Φ,hs,fun σ w hE hk => ?_,?_⟩
    · unfold zCI at he;have h1:=fun h2=>hob σ w hE h2;cases hg:o.guard with
      | none =>
       rw [hg] at he;have he:=Option.some.inj he;subst he;exact h1 (zDU hl hk (fun j hj=>hb i j hj))
      | some gw =>
       obtain ⟨j,want⟩:=gw;rw [hg] at he;simp only at he ⊢;cases hj:(ops[j]?).bind (·.dst) with
       | none=>rw [hj] at he;cases he
       | some u =>
        rw [hj] at he;have he:=Option.some.inj he;subst he;exact h1 (zDU hl hk (fun j hj=>hb i j hj))
    · have:=zDf hb os es' (i+1) (Φ :: Φs) (by simp [hl]) hq h;rw [List.reverse_cons] at this;exact this
theorem zEg (hbk:zBX ops=true):∀ j i,waits ops j i=true→i<j:=fun j i hw=>by
 unfold waits at hw;cases hj:ops[j]? with
 | none=>rw [hj] at hw;cases hw
 | some o =>
  rw [hj] at hw;obtain ⟨e,he,hb⟩:=List.any_eq_true.1 hw;simp only [Bool.and_eq_true,beq_iff_eq] at hb;have hjl:=(List.getElem?_eq_some_iff.1 hj).1;simp only [zBX,List.all_eq_true,List.mem_range] at hbk;have:=hbk j hjl;rw [hj] at this;have:=List.all_eq_true.1 this e he;simp [hb.1] at this;omega
theorem zAc (pl:List Entry) (hm:P.follows .mixedOrders=true) (hok:zAO ops (ops.map fun _ _ _=>True) ρ [] N=true) (hbk:zBX ops=true) (hpl:zBS ops 0 ops=some pl)
 (h:∀ K:List (Value→World→Prop)→Prop,(∀ Φs,(∀ w',Ext w0 w'→zBA Φs.reverse ops ρ w' (fun ρ'=>Q .normal ρ' δ w'))→K Φs)→dRunP P r [] ρ w0 ops pl [] K):WPE P r N (.region id ops.toArray true) Q δ ρ w0 :=
 wpe_calls hm hok hbk fun K hK=>by
  have:=zDf (P:=P) (r:=r) (S:=[]) (ρ:=ρ) (w0:=w0) (K:=fun Ψ=>K Ψ.reverse) (zEg hbk) ops pl 0 [] rfl hpl (h (fun Ψ=>K Ψ.reverse) fun Φs hΦ=>hK _ hΦ);simpa only [List.reverse_reverse,List.reverse_nil] using this
theorem dcp {S:List Nat} {o:Oper} {l:List (Nat×Option Nat)} {es:List Entry} (Φ:Value→World→Prop)
 (hs:∀ v w w',ExtS S w0 w→ExtS S w w'→Φ v w→Φ v w')
 (hob:∀ (σ:Nat→Value) (w:World),Ext w0 w→KnowP Φs ρ w σ l→Runs P r o (lookσ σ) w (fun v w'=>Ext w w'∧Φ v w'))
 (h:dRunP P r S ρ w0 os es (Φ :: Φs) K):dRunP P r S ρ w0 (o :: os) ((l,none) :: es) Φs K :=
 ⟨Φ,hs,fun σ w hE hk=>hob σ w hE hk,h⟩
theorem dvp {S:List Nat} {o:Oper} {l:List (Nat×Option Nat)} {es:List Entry} 
 (hob:∀ (σ:Nat→Value) (w:World),Ext w0 w→KnowP Φs ρ w σ l→Runs P r o (lookσ σ) w (fun v w'=>Ext w w'∧v=u))
 (h:dRunP P r S ρ w0 os es ((fun v _=>v=u) :: Φs) K):dRunP P r S ρ w0 (o :: os) ((l,none) :: es) Φs K :=
 ⟨fun v _=>v=u,fun _ _ _ _ _ h=>h,fun σ w hE hk=>hob σ w hE hk,h⟩
theorem zAR {S:List Nat} {es:List Entry} (h:K Φs):dRunP P r S ρ w0 [] es Φs K:=h
end
variable {es:List Entry} {ss:List StoreSpec}
section
def OblS (P:Program) (r:Option Nat) (S:List Nat) (ρ:Env) (w0:World) (Φs:List (Value→World→Prop)) (o:Oper) (e:Entry) (Φ:Value→World→Prop):Prop :=
 ∀ (σ:Nat→Value) (w:World),ExtS S w0 w→KnowP Φs ρ w σ e.1 →
 match e.2 with
 | none=>Runs P r o (lookσ σ) w (fun v w'=>Ext w w'∧Φ v w')
 | some (t,want)=>(σ t = .bool want→Runs P r o (lookσ σ) w (fun v w'=>Ext w w'∧Φ v w'))∧(σ t≠.bool want→Φ undef w)
def dRunS (P:Program) (r:Option Nat) (ss:List StoreSpec) (ρ:Env) (w0:World):Nat→List Oper→List Entry→List (Value→World→Prop)→(List (Value→World→Prop)→Prop)→Prop
 | _,[],_,Φs,K=>K Φs
 | i,o :: os,e :: es,Φs,K=>match ss.find? (fun s=>s.idx==i) with
  | some s=>(∀ (σ:Nat→Value) (w:World),ExtS (ss.map (·.blk)) w0 w→s.pre w→KnowP Φs ρ w σ e.1→Runs P r o (lookσ σ) w (fun _ w'=>Upd s.blk w w'∧s.post w'))∧dRunS P r ss ρ w0 (i+1) os es ((fun _ _=>True) :: Φs) K
  | none=>∃ Φ:Value→World→Prop,(∀ v w w',ExtS (ss.map (·.blk)) w0 w→ExtS (ss.map (·.blk)) w w'→Φ v w→Φ v w')∧OblS P r (ss.map (·.blk)) ρ w0 Φs o e Φ∧dRunS P r ss ρ w0 (i+1) os es (Φ :: Φs) K
 | _,_ :: _,[],_,_=>False
theorem zHh {ss:List StoreSpec} {K:List (Value→World→Prop)→Prop}:∀ (os:List Oper) (es:List Entry) (k:Nat) (Φs:List (Value→World→Prop)),Φs.length=k→dRunS P r ss ρ w0 k os es Φs K →
 ∃ Ψs:List (Value→World→Prop),Ψs.length=os.length∧K (Ψs.reverse++Φs)∧Monos (ss.map (·.blk)) w0 Ψs∧∀ (i:Nat) (o:Oper),os[i]? = some o→∃ e,es[i]? = some e ∧
  (match ss.find? (fun s=>s.idx==k+i) with
  | some s=>(∀ v w,Ψs.getD i (fun _ _=>True) v w)∧∀ (σ:Nat→Value) (w:World),ExtS (ss.map (·.blk)) w0 w→s.pre w→KnowP ((Ψs.take i).reverse++Φs) ρ w σ e.1→Runs P r o (lookσ σ) w (fun _ w'=>Upd s.blk w w'∧s.post w')
  | none=>OblS P r (ss.map (·.blk)) ρ w0 ((Ψs.take i).reverse++Φs) o e (Ψs.getD i (fun _ _=>True)))
 | [],es,k,Φs,_,h=>⟨[],rfl,h,trivial,fun i o ho=>by simp at ho⟩
 | o :: os,[],k,Φs,hl,h=>h.elim
 | o :: os,e :: es,k,Φs,hl,h=>by
  unfold dRunS at h;cases hf:ss.find? (fun s=>s.idx==k) with
  | some s =>
   rw [hf] at h;obtain ⟨hob,h⟩:=h;obtain ⟨Ψs,h1,h2,h3,h4⟩:=zHh os es (k+1) ((fun _ _=>True) :: Φs) (by simp [hl]) h;refine ⟨(fun _ _=>True) :: Ψs,by simp [h1],by simpa using h2,⟨fun _ _ _ _ _ _=>trivial,h3⟩,fun i o' ho => ?_⟩;cases i with
   | zero =>
    simp at ho;subst ho;refine ⟨e,rfl,?_⟩;rw [Nat.add_zero,hf];exact ⟨fun _ _=>trivial,by simpa using hob⟩
   | succ i =>
    obtain ⟨e',he',h5⟩:=h4 i o' (by simpa using ho);refine ⟨e',by simpa using he',?_⟩;rw [show k+1+i=k+(i+1) from by omega] at h5;simpa using h5
  | none =>
   rw [hf] at h;obtain ⟨Φ,hs,hob,h⟩:=h;obtain ⟨Ψs,h1,h2,h3,h4⟩:=zHh os es (k+1) (Φ :: Φs) (by simp [hl]) h;refine ⟨Φ :: Ψs,by simp [h1],by simpa using h2,⟨hs,h3⟩,fun i o' ho => ?_⟩;cases i with
   | zero =>
    simp at ho;subst ho;refine ⟨e,rfl,?_⟩;rw [Nat.add_zero,hf];simpa using hob
   | succ i =>
    obtain ⟨e',he',h5⟩:=h4 i o' (by simpa using ho);refine ⟨e',by simpa using he',?_⟩;rw [show k+1+i=k+(i+1) from by omega] at h5;simpa using h5
theorem zBt:∀ (os:List Oper) (es:List Entry) (k:Nat),zBS ops k os=some es→∀ i o e,os[i]? = some o→es[i]? = some e→zCI ops (k+i) o=some e
 | [],es,k,_,i,o,e,ho,_=>by simp at ho
 | o :: os,es,k,hp,i,o',e',ho,he=>by
  unfold zBS at hp;cases h1:zCI ops k o with
  | none=>rw [h1] at hp;simp at hp
  | some e =>
   cases h2:zBS ops (k+1) os with
   | none=>rw [h1,h2] at hp;simp at hp
   | some es' =>
    rw [h1,h2] at hp;simp at hp;subst hp;cases i with
    | zero=>simp at ho he;subst ho he;simpa using h1
    | succ i =>
     have:=zBt os es' (k+1) h2 i o' e' (by simpa using ho) (by simpa using he);rwa [show k+1+i=k+(i+1) from by omega] at this
theorem zCb (ss:List StoreSpec) (pl:List Entry) (hm:P.follows .mixedOrders=true) (hok:zAO ops (ops.map fun _ _ _=>True) ρ ss N=true) (hbk:zBX ops=true) (hpl:zBS ops 0 ops=some pl) (hbn:(ss.map (·.blk)).Nodup)
 (hsn:ss.all (fun s=>match ss.find? (fun t=>t.idx==s.idx) with | some _=>decide (s.idx<ops.length) | none=>false)=true)
 (hst:∀ s∈ss,s.blk<w0.heap.size∧s.pre w0∧∀ w w',ExtS (ss.map (·.blk)) w0 w→ExtS (ss.map (·.blk)) w w'→w'.heap[s.blk]? = w.heap[s.blk]?→(s.pre w→s.pre w')∧(s.post w→s.post w'))
 (h:∀ K:List (Value→World→Prop)→Prop,(∀ Φs,(∀ w',ExtS (ss.map (·.blk)) w0 w'→Posts w' ss→zBA Φs.reverse ops ρ w' (fun ρ'=>Q .normal ρ' δ w'))→K Φs)→dRunS P r ss ρ w0 0 ops pl [] K):WPE P r N (.region id ops.toArray true) Q δ ρ w0:=by
 obtain ⟨Ψs,hl,hK,hmo,hob⟩:=zHh ops pl 0 [] rfl (h (fun Φs=>∀ w',ExtS (ss.map (·.blk)) w0 w'→Posts w' ss→zBA Φs.reverse ops ρ w' (fun ρ'=>Q .normal ρ' δ w')) (fun _ h=>h))
 simp only [List.append_nil,List.reverse_reverse,Nat.zero_add] at hK hob;have hb:=zEg hbk;have conv:∀ (i:Nat) (o:Oper) (e:Entry),ops[i]? = some o→pl[i]? = some e→∀ (σ:Nat→Value) (w:World),KnowL ops Ψs ρ w i σ (seesL ops o)→KnowP (Ψs.take i).reverse ρ w σ e.1:=fun i o e ho he σ w hk=>by
  have h1:=zBt ops pl 0 hpl i o e ho he;rw [Nat.zero_add] at h1;have hil:=(List.getElem?_eq_some_iff.1 ho).1;have hk2:KnowL ops ((Ψs.take i).reverse).reverse ρ w i σ (seesL ops o):=by
   rw [List.reverse_reverse];refine zCB (fun j v hw hp => ?_) hk;have hji:=hb _ _ hw;unfold phi at hp ⊢;simpa [List.getD_eq_getElem?_getD,List.getElem?_take,hji] using hp
  have hlen:((Ψs.take i).reverse).length=i:=by simp;omega
  have hkp:=zDU hlen hk2 (fun j hj=>hb i j hj);unfold zCI at h1;cases hg:o.guard with
  | none=>rw [hg] at h1;have h1:=Option.some.inj h1;subst h1;exact hkp
  | some gw =>
   obtain ⟨j,want⟩:=gw;rw [hg] at h1;simp only at h1;cases hj:(ops[j]?).bind (·.dst) with
   | none=>rw [hj] at h1;cases h1
   | some u=>rw [hj] at h1;have h1:=Option.some.inj h1;subst h1;exact hkp
 have hguard:∀ (i:Nat) (o:Oper) (e:Entry),ops[i]? = some o→pl[i]? = some e→(match o.guard with | none=>e.2=none | some (j,want)=>∃ u,(ops[j]?).bind (·.dst)=some u∧e.2=some (u,want)):=fun i o e ho he=>by
  have h1:=zBt ops pl 0 hpl i o e ho he;rw [Nat.zero_add] at h1;unfold zCI at h1;cases hg:o.guard with
  | none=>rw [hg] at h1;have h1:=Option.some.inj h1;subst h1;rfl
  | some gw =>
   obtain ⟨j,want⟩:=gw;rw [hg] at h1;simp only at h1 ⊢;cases hj:(ops[j]?).bind (·.dst) with
   | none=>rw [hj] at h1;cases h1
   | some u=>rw [hj] at h1;have h1:=Option.some.inj h1;subst h1;exact ⟨u,rfl,rfl⟩
 refine zGV ss Ψs hm ?_ hbk hbn hmo ?_ (zGg ops 0 fun i o ho => ?_) ?_
 · simp only [zAO,List.length_map,hl] at hok ⊢;exact hok
 · have:∀ l:List StoreSpec,(∀ s∈l,s∈ss)→zFm (ss.map (·.blk)) w0 Ψs l:=fun l=>by
    induction l with
    | nil=>exact fun _=>trivial
    | cons s l ih =>
     intro hsub;have hs:=hsub s (by simp);obtain ⟨h1,h2,h3⟩:=hst s hs;refine ⟨⟨h1,h2,fun v w => ?_,h3⟩,ih fun s' hs'=>hsub s' (by simp [hs'])⟩;have h4:=List.all_eq_true.1 hsn s hs;cases hf:ss.find? (fun t=>t.idx==s.idx) with
     | none=>rw [hf] at h4;cases h4
     | some t =>
      rw [hf] at h4;simp only [decide_eq_true_eq] at h4;have h5:ops[s.idx]? = some ops[s.idx]:=by simp [h4]
      obtain ⟨e,he,h6⟩:=hob s.idx _ h5;rw [hf] at h6;exact h6.1 v w
   exact this ss fun _ h=>h
 · rw [Nat.zero_add];intro σ w hE hk hS;obtain ⟨e,he,h6⟩:=hob i o ho;have hkp:=conv i o e ho he σ w hk
   have hgd:=hguard i o e ho he;cases hf:ss.find? (fun s=>s.idx==i) with
   | some s =>
    rw [hf] at h6;have hs:s∈ss:=List.mem_of_find?_eq_some hf;have hsi:s.idx=i:=by simpa using List.find?_some hf
    have hpre:s.pre w:=by
     have key:∀ l:List StoreSpec,s∈l→KnowS ops w i l→s.pre w:=fun l=>by
      induction l with
      | nil=>intro h;cases h
      | cons t l ih =>
       intro hm hk;rcases List.mem_cons.1 hm with rfl | hm
       · have:=hk.1;have hnw:waits ops i s.idx=false:=by
          cases hc:waits ops i s.idx with
          | false=>rfl
          | true=>have:=hb _ _ hc;omega
         rw [hnw] at this;simp only [Bool.false_eq_true,if_false] at this;rwa [if_pos (by simp [hsi])] at this
       · exact ih hm hk.2
     exact key ss hs hS
    have hrun:=h6.2 σ w hE hpre hkp;cases hg:o.guard with
    | none=>simp only [Obl0,hf];exact hrun
    | some gw =>
     -- no store stands under a guard
     exfalso;simp only [zAO,Bool.and_eq_true,List.all_eq_true] at hok;have:=hok.1.1.2 s hs;rw [hsi,ho] at this;simp [hg] at this
   | none =>
    rw [hf] at h6;have h7:=h6 σ w hE hkp;have hphi:(Ψs.getD i fun _ _=>True)=phi Ψs i:=rfl;rw [hphi] at h7;cases hg:o.guard with
    | none =>
     rw [hg] at hgd;simp only at hgd;rw [hgd] at h7;simp only [Obl0,hf];exact h7
    | some gw =>
     obtain ⟨j,want⟩:=gw;rw [hg] at hgd;obtain ⟨u,hu,he2⟩:=hgd;rw [he2] at h7;simp only [hu,Obl0,hf];exact h7
 · intro w' hE hP;exact hK w' hE hP
theorem dsn {o:Oper} {l:List (Nat×Option Nat)} (Φ:Value→World→Prop)
 (hf:(ss.find? fun s=>s.idx==i).isNone=true)
 (hs:∀ v w w',ExtS (ss.map (·.blk)) w0 w→ExtS (ss.map (·.blk)) w w'→Φ v w→Φ v w')
 (hob:∀ (σ:Nat→Value) (w:World),ExtS (ss.map (·.blk)) w0 w→KnowP Φs ρ w σ l→Runs P r o (lookσ σ) w (fun v w'=>Ext w w'∧Φ v w'))
 (h:dRunS P r ss ρ w0 (i+1) os es (Φ :: Φs) K):dRunS P r ss ρ w0 i (o :: os) ((l,none) :: es) Φs K:=by
 unfold dRunS;rw [Option.isNone_iff_eq_none.1 hf];exact ⟨Φ,hs,fun σ w hE hk=>hob σ w hE hk,h⟩
theorem dsv {o:Oper} {l:List (Nat×Option Nat)} 
 (hf:(ss.find? fun s=>s.idx==i).isNone=true)
 (hob:∀ (σ:Nat→Value) (w:World),ExtS (ss.map (·.blk)) w0 w→KnowP Φs ρ w σ l→Runs P r o (lookσ σ) w (fun v w'=>Ext w w'∧v=u))
 (h:dRunS P r ss ρ w0 (i+1) os es ((fun v _=>v=u) :: Φs) K):dRunS P r ss ρ w0 i (o :: os) ((l,none) :: es) Φs K :=
 dsn (fun v _=>v=u) hf (fun _ _ _ _ _ h=>h) hob h
theorem dss {o:Oper} {e:Entry} (s:StoreSpec)
 (hf:ss.find? (fun s=>s.idx==i)=some s)
 (hob:∀ (σ:Nat→Value) (w:World),ExtS (ss.map (·.blk)) w0 w→s.pre w→KnowP Φs ρ w σ e.1→Runs P r o (lookσ σ) w (fun _ w'=>Upd s.blk w w'∧s.post w'))
 (h:dRunS P r ss ρ w0 (i+1) os es ((fun _ _=>True) :: Φs) K):dRunS P r ss ρ w0 i (o :: os) (e :: es) Φs K:=by
 unfold dRunS;rw [hf];exact ⟨hob,h⟩
theorem zHn (h:K Φs):dRunS P r ss ρ w0 i [] es Φs K:=h
end
section gives
theorem zx (h:fn.results = #[.cell t T]) (hd:(dom ρ).contains t=true) (hv:look1 ρ t = .pointer (some ⟨b,0,none⟩)) (hT:Aggr P T n) (hB:Blk w b T' cs) (hn:cs.length=n):Gives P fn N ρ w (.agg cs.toArray):=fun a hf=>by
 have h1:=hf.at_ t (by simpa using hd);rw [hv] at h1;have h2:=zCG (o:=0) hT hB (by omega);have h3:((cs.drop 0).take n).toArray=cs.toArray:=by rw [List.drop_zero,List.take_of_length_le (by omega)]
 rw [h3] at h2;rw [Array.getD_eq_getD_getElem?] at h1;simp only [results,h];simp [h1,asAddr,h2]
theorem zu {u:Nat} (h:fn.results = #[.cell t T,.tmp u]) (hd:(dom ρ).contains t=true) (hu:(dom ρ).contains u=true) (hv:look1 ρ t = .pointer (some ⟨b,0,none⟩)) (hT:Aggr P T n) (hB:Blk w b T' cs) (hn:cs.length=n):Gives P fn N ρ w (.tuple #[.agg cs.toArray,look1 ρ u]):=fun a hf=>by
 have h1:=hf.at_ t (by simpa using hd);have h4:=hf.at_ u (by simpa using hu);rw [hv] at h1;have h2:=zCG (o:=0) hT hB (by omega);have h3:((cs.drop 0).take n).toArray=cs.toArray:=by rw [List.drop_zero,List.take_of_length_le (by omega)]
 rw [h3] at h2;rw [Array.getD_eq_getD_getElem?] at h1;simp only [results,h];rw [← h4];simp [h1,asAddr,h2]
end gives
variable {T2 cap2 o:Nat}
def Cells (w:World) (p:Option Addr) (T:TypeId) (cs:List Value):Prop:=cs=[]∨∃ b o all,p=some ⟨b,o,none⟩∧Blk w b T all∧(all.drop o).take cs.length=cs
theorem Cells.ext (h:Cells w p T cs) (hx:Ext w w'):Cells w' p T cs:=by
 rcases h with h | ⟨b,o,all,h1,h2,h3⟩
 · exact .inl h
 · exact .inr ⟨b,o,all,h1,h2.ext hx,h3⟩
theorem zBe {m:Nat} (h:Cells w p T cs) (hl:cs.length=m*n):(Builtin.firstCells n m (.slice p len cap)).run P w = .ok cs.toArray w:=by
 rcases h with h | ⟨b,o,all,rfl,h2,h3⟩
 · subst h;have h0:m*n=0:=by simpa using hl.symm
   cases p with
   | none=>simp [Builtin.firstCells]
   | some a=>simp [Builtin.firstCells,h0,loadCells,loadCellsFrom]
 · have hh:=run_loadCells_list (P:=P) w ⟨b,o,none⟩ cs (fun j v hj=>by
    rw [zAk,h2.cell];rw [← h3,List.getElem?_take] at hj;split at hj
    · rw [List.getElem?_drop] at hj;exact hj
    · cases hj)
   rw [hl] at hh;simp [Builtin.firstCells,hh]
section laws
variable {K:Value→World→Prop} {d:Option Tmp}
theorem zAJ {T m:Nat} {q:Option Addr} {old new:List Value}
 (hT:P.underlying T=some (.slice E)) (hT2:P.underlying T2=some (.slice E)) (hi:(P.info? E).map (fun i=>(i.zero,i.size,i.bytes))=some (some z,n,bytes)) (hz:z.cells.size=n) (hb0:0<bytes)
 (hx:σ x = .slice p len cap) (hy:σ y = .slice q m cap2) (ho:Cells w p E old) (hol:old.length=len*n) (hn:Cells w q E new) (hnl:new.length=m*n)
 (hc:cap<len+m) (hbig:Builtin.nextslicecap (len+m) cap*bytes≤281474976710656)
 (hk:∀ w' rest cap',len+m≤cap'→Ext w w'→Blk w' w.heap.size E (old++new++rest)→rest=(Builtin.zeroCells z.cells (cap'-(len+m))).toList→w'.heap.size=w.heap.size+1→K (.slice (some ⟨w.heap.size,0,none⟩) (len+m) cap') w') :
 Runs P r ⟨d,.call { callee := .builtin .append,args := #[x,y],argTypes := #[T,T2] },ty,pos,af,g⟩ σ w K:=by
 cases hie:P.info? E with
 | none=>simp [hie] at hi
 | some ie =>
  simp [hie] at hi;obtain ⟨e1,e2,e3⟩:=hi;have hb':¬ (281474976710656<Builtin.nextslicecap (len+m) cap*ie.bytes):=by rw [e3];omega
  have h0:¬ (ie.bytes=0):=by omega
  have hcut:∃ c,(Question.appendCap (len+m) cap E).cut (w.tape w.drawn (.appendCap (len+m) cap E))=c∧len+m≤c:=⟨_,rfl,by simp only [Question.cut];omega⟩;obtain ⟨c,hcc,hcl⟩:=hcut
  refine zAb (fun _ e=>by cases e) (v := .slice (some ⟨w.heap.size,0,none⟩) (len+m) c)
   (w':=w.drew.alloc (.cells (old.toArray++(new.toArray++Builtin.zeroCells z.cells (c-(len+m)))) E)) ?_ ?_
  · have f1:=zBe (P:=P) (w:=w.drew) (len:=len) (cap:=cap) (n:=n) (m:=len) (p:=p) (T:=E) (cs:=old) (ho.ext (Ext.drawn _)) hol;have f2:=zBe (P:=P) (w:=w.drew) (len:=m) (cap:=cap2) (n:=n) (m:=m) (p:=q) (T:=E) (cs:=new) (hn.ext (Ext.drawn _)) hnl;simp [execOp,resolve,hx,hy,invoke,builtin,Builtin.append_,run_underlying hT,run_underlying hT2,sizeOf,typeInfo,hie,e2,Builtin.lenOf,show ¬ (len+m≤cap) from by omega,hb',h0,Question.forced,hcc,f1,f2,zeroValue,e1,newRow]
  · refine hk _ (Builtin.zeroCells z.cells (c-(len+m))).toList _ hcl ?_ ?_ ?_ ?_
    · exact (Ext.drawn (w:=w) _).trans (Ext.push (w:=w.drew) _)
    · show (w.drew.heap.push _)[w.heap.size]? = _;rw [show w.heap.size=w.drew.heap.size from rfl,Array.getElem?_push_size];simp
    · rfl
    · show (w.drew.heap.push _).size=_;rw [Array.size_push];rfl
theorem zBM {T m:Nat} {q:Option Addr} {all new:List Value}
 (hT:P.underlying T=some (.slice E)) (hT2:P.underlying T2=some (.slice E)) (hi:(P.info? E).map (fun i=>(i.zero,i.size,i.bytes))=some (some z,n,bytes))
 (hx:σ x = .slice (some ⟨b,o,none⟩) len cap) (hy:σ y = .slice q m cap2) (hB:Blk w b E all) (hn:Cells w q E new) (hnl:new.length=m*n)
 (hc:len+m≤cap) (hall:o+(len+m)*n≤all.length) (hok:new.all zBl=true)
 (hk:∀ w',Upd b w w'→Blk w' b E (zAy all (o+len*n) new)→K (.slice (some ⟨b,o,none⟩) (len+m) cap) w') :
 Runs P r ⟨d,.call { callee := .builtin .append,args := #[x,y],argTypes := #[T,T2] },ty,pos,af,g⟩ σ w K:=by
 cases hie:P.info? E with
 | none=>simp [hie] at hi
 | some ie =>
  simp [hie] at hi;obtain ⟨e1,e2,e3⟩:=hi;have f2:=zBe (P:=P) (w:=w) (len:=m) (cap:=cap2) (n:=n) (m:=m) (p:=q) (T:=E) (cs:=new) hn hnl;have f3:=zBJ (P:=P) (b:=b) (o:=o+len*n) new 0 w all hB (by rw [hnl];rw [Nat.add_mul] at hall;omega) hok;refine zAb (fun _ e=>by cases e) (v := .slice (some ⟨b,o,none⟩) (len+m) cap) (w':=if new=[] then w else World.setBlk w b E (zAy all (o+len*n) new)) ?_ ?_
  · simp [execOp,resolve,hx,hy,invoke,builtin,Builtin.append_,run_underlying hT,run_underlying hT2,sizeOf,typeInfo,hie,e2,Builtin.lenOf,hc,f2,zAk];have f3':=f3;simp only [Nat.add_zero] at f3';rw [f3'];simp
  · by_cases h0:new=[]
    · subst h0;rw [if_pos rfl];exact hk w (Upd.refl b w) (by simpa [zAy] using hB)
    · rw [if_neg h0];exact hk _ (zDt hB _) (zCx _ _ hB.lt)
theorem runs_append_nil {T:Nat} {q:Option Addr}
 (hT:P.underlying T=some (.slice E)) (hT2:P.underlying T2=some (.slice E)) (hi:(P.info? E).map (fun i=>(i.zero,i.size,i.bytes))=some (some z,n,bytes))
 (hx:σ x = .slice p len cap) (hy:σ y = .slice q 0 cap2) (hc:len≤cap) (hk:K (.slice p len cap) w) :
 Runs P r ⟨d,.call { callee := .builtin .append,args := #[x,y],argTypes := #[T,T2] },ty,pos,af,g⟩ σ w K:=by
 cases hie:P.info? E with
 | none=>simp [hie] at hi
 | some ie =>
  simp [hie] at hi;obtain ⟨e1,e2,e3⟩:=hi;have f2:=zBe (P:=P) (w:=w) (len:=0) (cap:=cap2) (n:=n) (m:=0) (p:=q) (T:=E) (cs:=[]) (.inl rfl) (by simp);refine zl (fun _ e=>by cases e) ?_ hk;cases p with
  | none=>simp [execOp,resolve,hx,hy,invoke,builtin,Builtin.append_,run_underlying hT,run_underlying hT2,sizeOf,typeInfo,hie,e2,Builtin.lenOf,hc,f2]
  | some a=>simp [execOp,resolve,hx,hy,invoke,builtin,Builtin.append_,run_underlying hT,run_underlying hT2,sizeOf,typeInfo,hie,e2,Builtin.lenOf,hc,f2,storeCells]
end laws
theorem zeroCells_one (v:Value) (h:v.cells = #[v]) (m:Nat):(Builtin.zeroCells v.cells m).toList=List.replicate m v:=by
 rw [h];simp only [Builtin.zeroCells,Array.toList_map,Array.toList_range,List.size_toArray,List.length_cons,List.length_nil,Nat.mod_one];apply List.ext_getElem?;intro i;simp only [List.getElem?_map,List.getElem?_replicate];by_cases hi:i<m
 · simp [hi,Nat.mod_one]
 · simp [hi]
theorem growBy_le (n c:Nat):Builtin.growBy n 4 c≤3*c+2048:=by
 unfold Builtin.growBy Builtin.growBy Builtin.growBy Builtin.growBy Builtin.growBy;split
 · omega
 · split
   · omega
   · split
     · omega
     · split
       · omega
       · omega
theorem zAa (n c:Nat):Builtin.nextslicecap n c≤n+3*c+2048:=by
 have:=growBy_le n c;unfold Builtin.nextslicecap;split
 · omega
 · split
   · omega
   · omega
section
def OblB (P:Program) (r:Option Nat) (ss:List StoreSpec) (i:Nat) (ρ:Env) (w0:World) (Φs:List (Value→World→Prop)) (o:Oper) (e:Entry) (Φ:Value→World→Prop):Prop :=
 ∀ (σ:Nat→Value) (w:World),ExtS (ss.map (·.blk)) w0 w→(∀ s∈ss,i<s.idx→s.pre w)→KnowP Φs ρ w σ e.1 →
 match e.2 with
 | none=>Runs P r o (lookσ σ) w (fun v w'=>Ext w w'∧Φ v w')
 | some (t,want)=>(σ t = .bool want→Runs P r o (lookσ σ) w (fun v w'=>Ext w w'∧Φ v w'))∧(σ t≠.bool want→Φ undef w)
def dRunB (P:Program) (r:Option Nat) (ss:List StoreSpec) (ρ:Env) (w0:World):Nat→List Oper→List Entry→List (Value→World→Prop)→(List (Value→World→Prop)→Prop)→Prop
 | _,[],_,Φs,K=>K Φs
 | i,o :: os,e :: es,Φs,K=>match ss.find? (fun s=>s.idx==i) with
  | some s=>(∀ (σ:Nat→Value) (w:World),ExtS (ss.map (·.blk)) w0 w→s.pre w→KnowP Φs ρ w σ e.1→Runs P r o (lookσ σ) w (fun _ w'=>Upd s.blk w w'∧s.post w'))∧dRunB P r ss ρ w0 (i+1) os es ((fun _ _=>True) :: Φs) K
  | none=>∃ Φ:Value→World→Prop,(∀ v w w',ExtS (ss.map (·.blk)) w0 w→ExtS (ss.map (·.blk)) w w'→Φ v w→Φ v w')∧OblB P r ss i ρ w0 Φs o e Φ∧dRunB P r ss ρ w0 (i+1) os es (Φ :: Φs) K
 | _,_ :: _,[],_,_=>False
theorem zHf {ss:List StoreSpec} {K:List (Value→World→Prop)→Prop}:∀ (os:List Oper) (es:List Entry) (k:Nat) (Φs:List (Value→World→Prop)),Φs.length=k→dRunB P r ss ρ w0 k os es Φs K →
 ∃ Ψs:List (Value→World→Prop),Ψs.length=os.length∧K (Ψs.reverse++Φs)∧Monos (ss.map (·.blk)) w0 Ψs∧∀ (i:Nat) (o:Oper),os[i]? = some o→∃ e,es[i]? = some e ∧
  (match ss.find? (fun s=>s.idx==k+i) with
  | some s=>(∀ v w,Ψs.getD i (fun _ _=>True) v w)∧∀ (σ:Nat→Value) (w:World),ExtS (ss.map (·.blk)) w0 w→s.pre w→KnowP ((Ψs.take i).reverse++Φs) ρ w σ e.1→Runs P r o (lookσ σ) w (fun _ w'=>Upd s.blk w w'∧s.post w')
  | none=>OblB P r ss (k+i) ρ w0 ((Ψs.take i).reverse++Φs) o e (Ψs.getD i (fun _ _=>True)))
 | [],es,k,Φs,_,h=>⟨[],rfl,h,trivial,fun i o ho=>by simp at ho⟩
 | o :: os,[],k,Φs,hl,h=>h.elim
 | o :: os,e :: es,k,Φs,hl,h=>by
  unfold dRunB at h;cases hf:ss.find? (fun s=>s.idx==k) with
  | some s =>
   rw [hf] at h;obtain ⟨hob,h⟩:=h;obtain ⟨Ψs,h1,h2,h3,h4⟩:=zHf os es (k+1) ((fun _ _=>True) :: Φs) (by simp [hl]) h;refine ⟨(fun _ _=>True) :: Ψs,by simp [h1],by simpa using h2,⟨fun _ _ _ _ _ _=>trivial,h3⟩,fun i o' ho => ?_⟩;cases i with
   | zero =>
    simp at ho;subst ho;refine ⟨e,rfl,?_⟩;rw [Nat.add_zero,hf];exact ⟨fun _ _=>trivial,by simpa using hob⟩
   | succ i =>
    obtain ⟨e',he',h5⟩:=h4 i o' (by simpa using ho);refine ⟨e',by simpa using he',?_⟩;rw [show k+1+i=k+(i+1) from by omega] at h5;simpa using h5
  | none =>
   rw [hf] at h;obtain ⟨Φ,hs,hob,h⟩:=h;obtain ⟨Ψs,h1,h2,h3,h4⟩:=zHf os es (k+1) (Φ :: Φs) (by simp [hl]) h;refine ⟨Φ :: Ψs,by simp [h1],by simpa using h2,⟨hs,h3⟩,fun i o' ho => ?_⟩;cases i with
   | zero =>
    simp at ho;subst ho;refine ⟨e,rfl,?_⟩;rw [Nat.add_zero,hf];simpa using hob
   | succ i =>
    obtain ⟨e',he',h5⟩:=h4 i o' (by simpa using ho);refine ⟨e',by simpa using he',?_⟩;rw [show k+1+i=k+(i+1) from by omega] at h5;simpa using h5
theorem zDN (ss:List StoreSpec) (pl:List Entry) (hm:P.follows .mixedOrders=true) (hok:zAO ops (ops.map fun _ _ _=>True) ρ ss N=true) (hbk:zBX ops=true) (hpl:zBS ops 0 ops=some pl) (hbn:(ss.map (·.blk)).Nodup) (hbef:ss.all (fun s=>(List.range s.idx).all fun i=>waits ops s.idx i)=true)
 (hsn:ss.all (fun s=>match ss.find? (fun t=>t.idx==s.idx) with | some _=>decide (s.idx<ops.length) | none=>false)=true)
 (hst:∀ s∈ss,s.blk<w0.heap.size∧s.pre w0∧∀ w w',ExtS (ss.map (·.blk)) w0 w→ExtS (ss.map (·.blk)) w w'→w'.heap[s.blk]? = w.heap[s.blk]?→(s.pre w→s.pre w')∧(s.post w→s.post w'))
 (h:∀ K:List (Value→World→Prop)→Prop,(∀ Φs,(∀ w',ExtS (ss.map (·.blk)) w0 w'→Posts w' ss→zBA Φs.reverse ops ρ w' (fun ρ'=>Q .normal ρ' δ w'))→K Φs)→dRunB P r ss ρ w0 0 ops pl [] K):WPE P r N (.region id ops.toArray true) Q δ ρ w0:=by
 obtain ⟨Ψs,hl,hK,hmo,hob⟩:=zHf ops pl 0 [] rfl (h (fun Φs=>∀ w',ExtS (ss.map (·.blk)) w0 w'→Posts w' ss→zBA Φs.reverse ops ρ w' (fun ρ'=>Q .normal ρ' δ w')) (fun _ h=>h))
 simp only [List.append_nil,List.reverse_reverse,Nat.zero_add] at hK hob;have hb:=zEg hbk;have conv:∀ (i:Nat) (o:Oper) (e:Entry),ops[i]? = some o→pl[i]? = some e→∀ (σ:Nat→Value) (w:World),KnowL ops Ψs ρ w i σ (seesL ops o)→KnowP (Ψs.take i).reverse ρ w σ e.1:=fun i o e ho he σ w hk=>by
  have h1:=zBt ops pl 0 hpl i o e ho he;rw [Nat.zero_add] at h1;have hil:=(List.getElem?_eq_some_iff.1 ho).1;have hk2:KnowL ops ((Ψs.take i).reverse).reverse ρ w i σ (seesL ops o):=by
   rw [List.reverse_reverse];refine zCB (fun j v hw hp => ?_) hk;have hji:=hb _ _ hw;unfold phi at hp ⊢;simpa [List.getD_eq_getElem?_getD,List.getElem?_take,hji] using hp
  have hlen:((Ψs.take i).reverse).length=i:=by simp;omega
  have hkp:=zDU hlen hk2 (fun j hj=>hb i j hj);unfold zCI at h1;cases hg:o.guard with
  | none=>rw [hg] at h1;have h1:=Option.some.inj h1;subst h1;exact hkp
  | some gw =>
   obtain ⟨j,want⟩:=gw;rw [hg] at h1;simp only at h1;cases hj:(ops[j]?).bind (·.dst) with
   | none=>rw [hj] at h1;cases h1
   | some u=>rw [hj] at h1;have h1:=Option.some.inj h1;subst h1;exact hkp
 have hguard:∀ (i:Nat) (o:Oper) (e:Entry),ops[i]? = some o→pl[i]? = some e→(match o.guard with | none=>e.2=none | some (j,want)=>∃ u,(ops[j]?).bind (·.dst)=some u∧e.2=some (u,want)):=fun i o e ho he=>by
  have h1:=zBt ops pl 0 hpl i o e ho he;rw [Nat.zero_add] at h1;unfold zCI at h1;cases hg:o.guard with
  | none=>rw [hg] at h1;have h1:=Option.some.inj h1;subst h1;rfl
  | some gw =>
   obtain ⟨j,want⟩:=gw;rw [hg] at h1;simp only at h1 ⊢;cases hj:(ops[j]?).bind (·.dst) with
   | none=>rw [hj] at h1;cases h1
   | some u=>rw [hj] at h1;have h1:=Option.some.inj h1;subst h1;exact ⟨u,rfl,rfl⟩
 refine zGV ss Ψs hm ?_ hbk hbn hmo ?_ (zGg ops 0 fun i o ho => ?_) ?_
 · simp only [zAO,List.length_map,hl] at hok ⊢;exact hok
 · have:∀ l:List StoreSpec,(∀ s∈l,s∈ss)→zFm (ss.map (·.blk)) w0 Ψs l:=fun l=>by
    induction l with
    | nil=>exact fun _=>trivial
    | cons s l ih =>
     intro hsub;have hs:=hsub s (by simp);obtain ⟨h1,h2,h3⟩:=hst s hs;refine ⟨⟨h1,h2,fun v w => ?_,h3⟩,ih fun s' hs'=>hsub s' (by simp [hs'])⟩;have h4:=List.all_eq_true.1 hsn s hs;cases hf:ss.find? (fun t=>t.idx==s.idx) with
     | none=>rw [hf] at h4;cases h4
     | some t =>
      rw [hf] at h4;simp only [decide_eq_true_eq] at h4;have h5:ops[s.idx]? = some ops[s.idx]:=by simp [h4]
      obtain ⟨e,he,h6⟩:=hob s.idx _ h5;rw [hf] at h6;exact h6.1 v w
   exact this ss fun _ h=>h
 · rw [Nat.zero_add];intro σ w hE hk hS;obtain ⟨e,he,h6⟩:=hob i o ho;have hkp:=conv i o e ho he σ w hk
   have hgd:=hguard i o e ho he;cases hf:ss.find? (fun s=>s.idx==i) with
   | some s =>
    rw [hf] at h6;have hs:s∈ss:=List.mem_of_find?_eq_some hf;have hsi:s.idx=i:=by simpa using List.find?_some hf
    have hpre:s.pre w:=by
     have key:∀ l:List StoreSpec,s∈l→KnowS ops w i l→s.pre w:=fun l=>by
      induction l with
      | nil=>intro h;cases h
      | cons t l ih =>
       intro hm hk;rcases List.mem_cons.1 hm with rfl | hm
       · have:=hk.1;have hnw:waits ops i s.idx=false:=by
          cases hc:waits ops i s.idx with
          | false=>rfl
          | true=>have:=hb _ _ hc;omega
         rw [hnw] at this;simp only [Bool.false_eq_true,if_false] at this;rwa [if_pos (by simp [hsi])] at this
       · exact ih hm hk.2
     exact key ss hs hS
    have hrun:=h6.2 σ w hE hpre hkp;cases hg:o.guard with
    | none=>simp only [Obl0,hf];exact hrun
    | some gw =>
     -- no store stands under a guard
     exfalso;simp only [zAO,Bool.and_eq_true,List.all_eq_true] at hok;have:=hok.1.1.2 s hs;rw [hsi,ho] at this;simp [hg] at this
   | none =>
    rw [hf] at h6;have hpres:∀ s∈ss,i<s.idx→s.pre w:=fun s hs hi=>by
     have key:∀ l:List StoreSpec,s∈l→KnowS ops w i l→s.pre w:=fun l=>by
      induction l with
      | nil=>intro h;cases h
      | cons t l ih =>
       intro hm hk;rcases List.mem_cons.1 hm with rfl | hm
       · have:=hk.1;have hnw:waits ops i s.idx=false:=by
          cases hc:waits ops i s.idx with
          | false=>rfl
          | true=>have:=hb _ _ hc;omega
         rw [hnw] at this;simp only [Bool.false_eq_true,if_false] at this;have h8:=List.all_eq_true.1 (List.all_eq_true.1 hbef s hs) i (List.mem_range.2 hi);rwa [if_pos (by simp [h8])] at this
       · exact ih hm hk.2
     exact key ss hs hS
    have h7:=h6 σ w hE hpres hkp;have hphi:(Ψs.getD i fun _ _=>True)=phi Ψs i:=rfl;rw [hphi] at h7;cases hg:o.guard with
    | none =>
     rw [hg] at hgd;simp only at hgd;rw [hgd] at h7;simp only [Obl0,hf];exact h7
    | some gw =>
     obtain ⟨j,want⟩:=gw;rw [hg] at hgd;obtain ⟨u,hu,he2⟩:=hgd;rw [he2] at h7;simp only [hu,Obl0,hf];exact h7
 · intro w' hE hP;exact hK w' hE hP
theorem dbn {o:Oper} {l:List (Nat×Option Nat)} (Φ:Value→World→Prop)
 (hf:(ss.find? fun s=>s.idx==i).isNone=true)
 (hs:∀ v w w',ExtS (ss.map (·.blk)) w0 w→ExtS (ss.map (·.blk)) w w'→Φ v w→Φ v w')
 (hob:∀ (σ:Nat→Value) (w:World),ExtS (ss.map (·.blk)) w0 w→(∀ s∈ss,i<s.idx→s.pre w)→KnowP Φs ρ w σ l→Runs P r o (lookσ σ) w (fun v w'=>Ext w w'∧Φ v w'))
 (h:dRunB P r ss ρ w0 (i+1) os es (Φ :: Φs) K):dRunB P r ss ρ w0 i (o :: os) ((l,none) :: es) Φs K:=by
 unfold dRunB;rw [Option.isNone_iff_eq_none.1 hf];exact ⟨Φ,hs,fun σ w hE hp hk=>hob σ w hE hp hk,h⟩
theorem dbv {o:Oper} {l:List (Nat×Option Nat)} 
 (hf:(ss.find? fun s=>s.idx==i).isNone=true)
 (hob:∀ (σ:Nat→Value) (w:World),ExtS (ss.map (·.blk)) w0 w→(∀ s∈ss,i<s.idx→s.pre w)→KnowP Φs ρ w σ l→Runs P r o (lookσ σ) w (fun v w'=>Ext w w'∧v=u))
 (h:dRunB P r ss ρ w0 (i+1) os es ((fun v _=>v=u) :: Φs) K):dRunB P r ss ρ w0 i (o :: os) ((l,none) :: es) Φs K :=
 dbn (fun v _=>v=u) hf (fun _ _ _ _ _ h=>h) hob h
theorem dbs {o:Oper} {e:Entry} (s:StoreSpec)
 (hf:ss.find? (fun s=>s.idx==i)=some s)
 (hob:∀ (σ:Nat→Value) (w:World),ExtS (ss.map (·.blk)) w0 w→s.pre w→KnowP Φs ρ w σ e.1→Runs P r o (lookσ σ) w (fun _ w'=>Upd s.blk w w'∧s.post w'))
 (h:dRunB P r ss ρ w0 (i+1) os es ((fun _ _=>True) :: Φs) K):dRunB P r ss ρ w0 i (o :: os) (e :: es) Φs K:=by
 unfold dRunB;rw [hf];exact ⟨hob,h⟩
theorem zKK (h:K Φs):dRunB P r ss ρ w0 i [] es Φs K:=h
end
section
theorem ExtS.mono {S S':List Nat} (h:ExtS S w w') (hs:∀ k∈S,k∈S'):ExtS S' w w' :=
 ⟨h.os,h.tape,h.output,h.size,fun k hk hn=>h.block k hk (fun e=>hn (hs k e)),h.kind⟩
section
variable (P:Program) (r:Option Nat) (ops:List Oper) (Φs:List (Value→World→Prop)) (ρ:Env) (w0:World) (ss:List StoreSpec)
def Obl0G (i:Nat) (o:Oper) (σ:Nat→Value) (w:World):Prop :=
 match ss.find? (fun s=>s.idx==i) with
 | some s=>Runs P r o (lookσ σ) w (fun v w'=>ExtS [s.blk] w w'∧s.post w'∧phi Φs i v w')
 | none=>Runs P r o (lookσ σ) w (fun v w'=>Ext w w'∧phi Φs i v w')
def Obl1G (i:Nat) (o:Oper):Prop:=∀ (σ:Nat→Value) (w:World),ExtS (ss.map (·.blk)) w0 w→KnowL ops Φs ρ w i σ (seesL ops o)→KnowS ops w i ss →
 match o.guard with
 | none=>Obl0G P r Φs ss i o σ w
 | some (j,want)=>match (ops[j]?).bind (·.dst) with
  | some t=>(σ t = .bool want→Obl0G P r Φs ss i o σ w)∧(σ t≠.bool want→phi Φs i undef w)
  | none=>False
def OblsG:Nat→List Oper→Prop
 | _,[]=>True
 | i,o :: os=>Obl1G P r ops Φs ρ w0 ss i o∧OblsG (i+1) os
def zEM (N:Nat):Bool :=
 (dom ρ).all (fun t=>decide (t<N)) &&
 decide (Φs.length=ops.length) &&
 decide ((ops.filterMap (·.dst)).Nodup) &&
 ss.all (fun s=>match ops[s.idx]? with | some o=>o.guard.isNone | none=>false)&&decide ((ss.map (·.idx)).Nodup) &&
 (List.range ops.length).all fun i=>match ops[i]? with
  | none=>false
  | some o=>(match o.dst with | some d=>decide (d<N) | none=>true)&&(match o.op with | .select _ _=>false | .defer _=>false | _=>true) &&
   (match o.guard with | some (j,_)=>((ops[j]?).bind (·.dst)).isSome | none=>true)&&(seesL ops o).all fun t=>match zCX ops t with
    | some j=>waits ops i j || ((waits ops j i || i==j)&&(dom ρ).contains t)
    | none=>(dom ρ).contains t
end
variable {P:Program} {r:Option Nat} {ops:List Oper} {Φs:List (Value→World→Prop)} {ρ:Env} {w0:World} {ss:List StoreSpec}
theorem zKc:∀ {os:List Oper} {k:Nat},OblsG P r ops Φs ρ w0 ss k os→∀ i o,os[i]? = some o→Obl1G P r ops Φs ρ w0 ss (k+i) o
 | o' :: os,k,h,0,o,ho=>by simp at ho;subst ho;exact h.1
 | o' :: os,k,h,i+1,o,ho=>by
  have:=zKc (k:=k+1) h.2 i o (by simpa using ho);rwa [show k+1+i=k+(i+1) by omega] at this
 | [],_,_,i,o,ho=>by simp at ho
structure InvG (N:Nat) (δ:List Deferred) (listed:Array Bool) (a:Act) (w:World):Prop where
 size:listed.size=ops.length
 closed:∀ j i,listed.getD j false=true→waits ops j i=true→listed.getD i false=true
 ext:ExtS (ss.map (·.blk)) w0 w
 defers:a.defers=δ
 tmps:a.tmps.size=N
 vals:∀ i o,ops[i]? = some o→listed.getD i false=true→∃ v,phi Φs i v w∧∀ d,o.dst=some d→a.tmps.getD d undef=v
 base:∀ t∈dom ρ,(∀ i o,ops[i]? = some o→listed.getD i false=true→o.dst≠some t)→a.tmps.getD t undef=look1 ρ t
 stores:∀ s∈ss,(listed.getD s.idx false=true→s.post w)∧(listed.getD s.idx false=false→s.pre w)
section step
theorem step_invG (hok:zEM ops Φs ρ ss N=true) (hΦ:∀ i,∀ v w w',ExtS (ss.map (·.blk)) w0 w→ExtS (ss.map (·.blk)) w w'→phi Φs i v w→phi Φs i v w')
 (hst:∀ s∈ss,∀ w w',ExtS (ss.map (·.blk)) w0 w→ExtS (ss.map (·.blk)) w w'→w'.heap[s.blk]? = w.heap[s.blk]?→(s.pre w→s.pre w')∧(s.post w→s.post w'))
 (hblk:∀ s∈ss,s.blk<w0.heap.size) (hbn:(ss.map (·.blk)).Nodup)
 (hobl:OblsG P r ops Φs ρ w0 ss 0 ops) {a:Act} (inv:InvG (ops:=ops) (Φs:=Φs) (ρ:=ρ) (w0:=w0) (ss:=ss) N δ listed a w)
 (hi:i∈Region.ready .any ops.toArray listed) {Q:Exit→Act→World→Prop} {K:Act→World→Prop}
 (hK:∀ a' w',InvG (ops:=ops) (Φs:=Φs) (ρ:=ρ) (w0:=w0) (ss:=ss) N δ (listed.setIfInBounds i true) a' w'→K a' w') :
 wpOpIn (W r) 0 P ops.toArray Q i K a w:=by
 simp only [zEM,Bool.and_eq_true,List.all_eq_true,decide_eq_true_eq,List.mem_range] at hok;obtain ⟨⟨⟨⟨⟨hD,hlen⟩,hnd⟩,hss⟩,hsn⟩,hops⟩:=hok;obtain ⟨hun,o,ho,hall⟩:=mem_ready.1 hi;have ho':ops[i]? = some o:=by simpa using ho
 have hilt:i<ops.length:=(List.getElem?_eq_some_iff.1 ho').1;have hunf:listed.getD i false=false:=by
  rcases Nat.lt_or_ge i listed.size with h | h
  · simp [h] at hun ⊢;exact hun
  · rw [inv.size] at h;omega
 have hdst:∀ (i:Nat) (o:Oper) (d:Nat),ops[i]? = some o→o.dst=some d→d<N:=fun j oj d hj hd=>by
  have hjlt:=(List.getElem?_eq_some_iff.1 hj).1;have:=hops j hjlt;rw [hj] at this;simp only [Bool.and_eq_true,hd,decide_eq_true_eq] at this;exact this.1.1.1
 have hoi:=hops i hilt;rw [ho'] at hoi;simp only [Bool.and_eq_true,List.all_eq_true] at hoi;obtain ⟨⟨⟨hoN,hsel0⟩,_⟩,hsee⟩:=hoi;have hsel:∀ cs b,o.op≠.select cs b:=fun cs b e=>by rw [e] at hsel0;cases hsel0
 have hdef:∀ c,o.op≠.defer c:=fun c e=>by rw [e] at hsel0;cases hsel0
 have hwait:∀ j,waits ops i j=true→listed.getD j false=true:=fun j hj=>by
  unfold waits at hj;rw [ho'] at hj;obtain ⟨e,he,hb⟩:=List.any_eq_true.1 hj;simp only [Bool.and_eq_true,beq_iff_eq] at hb;rw [← hb.2];exact hall e (by simpa using he) hb.1
 have hlater:∀ j,waits ops j i=true→listed.getD j false=false:=fun j hj=>by
  cases hl:listed.getD j false with
  | false=>rfl
  | true=>have:=inv.closed j i hl hj;rw [hunf] at this;cases this
 -- what is known of the slots that are seen
 have hknow:∀ t∈seesL ops o,KnowT ops Φs ρ w i t (a.tmps.getD t undef):=fun t ht=>by
  have h1:=hsee t ht;unfold KnowT;cases hwr:zCX ops t with
  | none =>
   rw [hwr] at h1;exact inv.base t (by simpa using h1) (fun k ok hk _=>zDO hwr k ok hk)
  | some j =>
   obtain ⟨oj,hoj,hdj⟩:=zBb hwr;rw [hwr] at h1;simp only [Bool.or_eq_true,Bool.and_eq_true] at h1;simp only [];by_cases hw:waits ops i j=true
   · rw [if_pos hw];obtain ⟨v,hv,he⟩:=inv.vals j oj hoj (hwait j hw);rw [he t hdj];exact hv
   · rw [if_neg hw];rcases h1 with h1 | ⟨h1,h2⟩
     · exact absurd h1 hw
     · refine inv.base t (by simpa using h2) (fun k ok hk hlk hdk => ?_);have hkj:=zCg hnd hk hoj hdk hdj;subst hkj;rcases h1 with h1 | h1
       · rw [hlater k h1] at hlk;cases hlk
       · rw [beq_iff_eq] at h1;subst h1;rw [hunf] at hlk;cases hlk
 have hsk:∀ (l:List StoreSpec),(∀ s∈l,s∈ss)→KnowS ops w i l:=fun l=>by
  induction l with
  | nil=>intro _;trivial
  | cons s l ih =>
   intro hl;refine ⟨?_,ih fun s' hs'=>hl s' (by simp [hs'])⟩;have hs:=inv.stores s (hl s (by simp));split
   · rename_i hw;exact hs.1 (hwait _ hw)
   · split
     · rename_i h2;simp only [Bool.or_eq_true,beq_iff_eq] at h2;rcases h2 with h2 | h2
       · exact hs.2 (h2 ▸ hunf)
       · exact hs.2 (hlater _ h2)
     · trivial
 have hob:=zKc hobl i o ho';rw [Nat.zero_add] at hob;have hob:=hob (fun t=>a.tmps.getD t undef) w inv.ext (zHG hknow) (hsk ss fun _ h=>h);have heval:∀ x,lookσ (fun t=>a.tmps.getD t undef) x=a.eval x:=fun x=>by cases x<;>rfl
 have hclosed':∀ j k,(listed.setIfInBounds i true).getD j false=true→waits ops j k=true→(listed.setIfInBounds i true).getD k false=true:=fun j k hj hw=>by
  by_cases hji:i=j
  · subst hji;exact getD_set_true (hwait k hw)
  · rw [getD_set_ne false hji] at hj;exact getD_set_true (inv.closed j k hj hw)
 have hset:(listed.setIfInBounds i true).getD i false=true:=by
  have:i<listed.size:=by rw [inv.size];exact hilt
  simp [this]
 have hput:∀ v t,o.dst≠some t→(a.put o.dst v).tmps.getD t undef=a.tmps.getD t undef:=fun v t ht=>by
  cases hd:o.dst with
  | none=>rfl
  | some d =>
   have hne:d≠t:=fun e=>ht (by rw [hd,e]);simp [Act.put,Array.getElem?_setIfInBounds_ne hne]
 have hputd:∀ v d,o.dst=some d→(a.put o.dst v).tmps.getD d undef=v:=fun v d hd=>by
  have:=hdst i o d ho' hd;rw [hd];simp [Act.put,inv.tmps,this]
 have hbase':∀ v,∀ t∈dom ρ,(∀ (k:Nat) (ok:Oper),ops[k]? = some ok→(listed.setIfInBounds i true).getD k false=true→ok.dst≠some t)→(a.put o.dst v).tmps.getD t undef=look1 ρ t:=fun v t ht hn=>by
  rw [hput v t (hn i o ho' hset)];exact inv.base t ht (fun k ok hk hlk=>hn k ok hk (getD_set_true hlk))
 have hvals':∀ v w',ExtS (ss.map (·.blk)) w w'→phi Φs i v w'→∀ (k:Nat) (ok:Oper),ops[k]? = some ok→(listed.setIfInBounds i true).getD k false=true →
  ∃ u,phi Φs k u w'∧∀ d,ok.dst=some d→(a.put o.dst v).tmps.getD d undef=u:=fun v w' hx hv k ok hk hlk=>by
  by_cases hki:i=k
  · subst hki;have:ok=o:=Option.some.inj (hk.symm.trans ho');subst this;exact ⟨v,hv,fun d hd=>hputd v d hd⟩
  · rw [getD_set_ne false hki] at hlk;obtain ⟨u,hu,he⟩:=inv.vals k ok hk hlk;refine ⟨u,hΦ k u w w' inv.ext hx hu,fun d hd => ?_⟩;rw [hput v d (fun e=>hki (zCg hnd ho' hk e hd)),he d hd]
 have hde:∀ v,(a.put o.dst v).defers=δ:=fun v=>by rw [← inv.defers];cases o.dst<;>rfl
 have hsz:∀ v,(a.put o.dst v).tmps.size=N:=fun v=>by rw [← inv.tmps];cases o.dst<;>simp [Act.put]
 -- an operation that is no store
 have normal:∀ v w',Ext w w'→ss.find? (fun s=>s.idx==i)=none→phi Φs i v w'→K (a.put o.dst v) w':=fun v w' hx hf hv=>by
  refine hK _ _ ⟨by simp [inv.size],hclosed',inv.ext.trans (hx.toS _),hde v,hsz v,hvals' v w' (hx.toS _) hv,hbase' v,fun s hs => ?_⟩;have hsi:s.idx≠i:=fun e=>by
   have:=List.find?_eq_none.1 hf s hs;simp [e] at this
  rw [getD_set_ne false (Ne.symm hsi)];have hb:w'.heap[s.blk]? = w.heap[s.blk]? := Below.block hx _ (Nat.lt_of_lt_of_le (hblk s hs) inv.ext.size);have h2:=hst s hs w w' inv.ext (hx.toS _) hb;exact ⟨fun h=>h2.2 ((inv.stores s hs).1 h),fun h=>h2.1 ((inv.stores s hs).2 h)⟩
 have hwant:=zIY (o:=o) inv.tmps hdst;have go0:Obl0G P r Φs ss i o (fun t=>a.tmps.getD t undef) w→o.wpIn (W r) 0 P a w K Q:=fun h=>by
  unfold Obl0G at h;cases hf:ss.find? (fun s=>s.idx==i) with
  | none =>
   rw [hf] at h;refine (Runs.congr hsel hdef (fun x _=>heval x) h).wpIn ?_;rintro v w' ⟨hx,hv⟩;exact normal v w' hx hf hv
  | some s =>
   rw [hf] at h;have hs:s∈ss:=List.mem_of_find?_eq_some hf;have hsi:s.idx=i:=by simpa using List.find?_some hf
   refine (Runs.congr hsel hdef (fun x _=>heval x) h).wpIn ?_;rintro v w' ⟨hu,hp,hv⟩;have hmem:s.blk∈ss.map (·.blk):=List.mem_map.2 ⟨s,hs,rfl⟩
   have hx:ExtS (ss.map (·.blk)) w w':=hu.mono fun k hk=>by rw [List.mem_singleton.1 hk];exact hmem
   refine hK _ _ ⟨by simp [inv.size],hclosed',inv.ext.trans hx,hde v,hsz v,hvals' v w' hx hv,hbase' v,fun s' hs' => ?_⟩;by_cases hsi':s'.idx=i
   · have:s'=s:=by
      have:=(List.pairwise_map.1 (show ((ss.map (·.idx))).Pairwise (· ≠ ·) from hsn))
      exact Classical.byContradiction fun hne=>by
       rcases List.getElem_of_mem hs with ⟨x,hx1,hx2⟩;rcases List.getElem_of_mem hs' with ⟨y,hy1,hy2⟩;have hxy:x≠y:=fun e=>hne (by subst e;rw [← hx2,← hy2]);rcases Nat.lt_or_gt_of_ne hxy with h3 | h3
       · have:=(List.pairwise_iff_getElem.1 this) x y hx1 hy1 h3;rw [hx2,hy2] at this;exact this (hsi.trans hsi'.symm)
       · have:=(List.pairwise_iff_getElem.1 this) y x hy1 hx1 h3;rw [hx2,hy2] at this;exact this (hsi'.trans hsi.symm)
     subst this;rw [hsi',hset];exact ⟨fun _=>hp,fun h=>by cases h⟩
   · rw [getD_set_ne false (Ne.symm hsi')];have hne:s'.blk≠s.blk:=fun e=>by
      have hss':s'≠s:=fun e=>hsi' (e ▸ hsi);rcases List.getElem_of_mem hs with ⟨x,hx1,hx2⟩
      rcases List.getElem_of_mem hs' with ⟨y,hy1,hy2⟩;have hxy:x≠y:=fun e=>hss' (by subst e;rw [← hx2,← hy2]);have hpw:=List.pairwise_map.1 (show ((ss.map (·.blk))).Pairwise (· ≠ ·) from hbn)
      rcases Nat.lt_or_gt_of_ne hxy with h3 | h3
      · have:=(List.pairwise_iff_getElem.1 hpw) x y hx1 hy1 h3;rw [hx2,hy2] at this;exact this e.symm
      · have:=(List.pairwise_iff_getElem.1 hpw) y x hy1 hx1 h3;rw [hx2,hy2] at this;exact this e
     have h2:=hst s' hs' w w' inv.ext hx (hu.block _ (Nat.lt_of_lt_of_le (hblk s' hs') inv.ext.size) (by simpa using hne));exact ⟨fun h=>h2.2 ((inv.stores s' hs').1 h),fun h=>h2.1 ((inv.stores s' hs').2 h)⟩
 unfold wpOpIn;simp only [List.getElem?_toArray,ho'];cases hg:o.guard with
 | none =>
  rw [hg] at hob hwant;simp only at hob hwant;rw [hwant];simp only [if_true];exact go0 hob
 | some gw =>
  obtain ⟨j,want⟩:=gw;rw [hg] at hob hwant;simp only at hob hwant;have hnost:ss.find? (fun s=>s.idx==i)=none:=by
   rw [List.find?_eq_none];intro s hs hsj;have:=hss s hs;rw [beq_iff_eq] at hsj;rw [hsj,ho'] at this;simp [hg] at this
  cases hj:(ops[j]?).bind (·.dst) with
  | none=>rw [hj] at hob;exact hob.elim
  | some t =>
   rw [hj] at hob hwant;simp only at hob hwant;by_cases hb:a.tmps.getD t undef = .bool want
   · rw [hb] at hwant;simp only [yes,beq_self_eq_true] at hwant;rw [hwant];simp only [if_true];exact go0 (hob.1 hb)
   · rw [hwant,zKx hb];simp only [Bool.false_eq_true,if_false];exact ⟨fun _ _=>trivial,normal undef w (Ext.refl w) hnost (hob.2 hb)⟩
theorem zHZ (hok:zEM ops Φs ρ ss N=true) (hΦ:∀ i,∀ v w w',ExtS (ss.map (·.blk)) w0 w→ExtS (ss.map (·.blk)) w w'→phi Φs i v w→phi Φs i v w')
 (hst:∀ s∈ss,∀ w w',ExtS (ss.map (·.blk)) w0 w→ExtS (ss.map (·.blk)) w w'→w'.heap[s.blk]? = w.heap[s.blk]?→(s.pre w→s.pre w')∧(s.post w→s.post w'))
 (hblk:∀ s∈ss,s.blk<w0.heap.size) (hbn:(ss.map (·.blk)).Nodup)
 (hobl:OblsG P r ops Φs ρ w0 ss 0 ops) {Q:Exit→Act→World→Prop}
 (hQ:∀ listed a w,InvG (ops:=ops) (Φs:=Φs) (ρ:=ρ) (w0:=w0) (ss:=ss) N δ listed a w→Region.ready .any ops.toArray listed=[]→Q .normal a w) :
 ∀ (fuel:Nat) (listed:Array Bool) (a:Act) (w:World),(List.range ops.length).countP (fun j => !listed.getD j false)≤fuel→InvG (ops:=ops) (Φs:=Φs) (ρ:=ρ) (w0:=w0) (ss:=ss) N δ listed a w→wpAnyIn (W r) 0 P .any ops.toArray Q fuel listed a w
 | 0,listed,a,w,hf,inv=>by
  have hready:Region.ready .any ops.toArray listed=[]:=by
   rw [List.eq_nil_iff_forall_not_mem];intro i hi;obtain ⟨hun,o,ho,_⟩:=mem_ready.1 hi;have hilt:i<ops.length:=(List.getElem?_eq_some_iff.1 (by simpa using ho)).1;have h0:(List.range ops.length).countP (fun j => !listed.getD j false)=0:=by omega
   rw [List.countP_eq_zero] at h0;have:=h0 i (List.mem_range.2 hilt);have hlt:i<listed.size:=by rw [inv.size];exact hilt
   simp [hlt] at this hun;rw [hun] at this;cases this
  exact ⟨hready,hQ listed a w inv hready⟩
 | fuel+1,listed,a,w,hf,inv=>by
  refine ⟨fun h=>hQ listed a w inv h,fun i hi => ?_⟩;refine step_invG hok hΦ hst hblk hbn hobl inv hi fun a' w' inv'=>zHZ hok hΦ hst hblk hbn hobl hQ fuel _ a' w' ?_ inv';obtain ⟨hun,o,ho,_⟩:=mem_ready.1 hi;have hilt:i<ops.length:=(List.getElem?_eq_some_iff.1 (by simpa using ho)).1;have hlt:i<listed.size:=by rw [inv.size];exact hilt
  have hunf:listed.getD i false=false:=by simp [hlt] at hun ⊢;exact hun
  have key:∀ (l:List Nat),l.Nodup→i∈l→l.countP (fun j => !(listed.setIfInBounds i true).getD j false)+1≤l.countP (fun j => !listed.getD j false):=by
   intro l
   induction l with
   | nil=>intro _ h;cases h
   | cons x l ih =>
    intro hnd hm;rw [List.nodup_cons] at hnd;rw [List.countP_cons,List.countP_cons];by_cases hx:i=x
    · subst hx;have h1:(listed.setIfInBounds i true).getD i false=true:=by simp [hlt]
      rw [h1,hunf];have hle:l.countP (fun j => !(listed.setIfInBounds i true).getD j false)≤l.countP (fun j => !listed.getD j false):=by
       apply List.countP_mono_left;intro j _ hj;cases hlj:listed.getD j false with
       | false=>rfl
       | true=>rw [getD_set_true hlj] at hj;cases hj
      simp only [Bool.not_true,Bool.not_false,Bool.false_eq_true,if_false,if_true];omega
    · have hm':i∈l:=by
       rcases List.mem_cons.1 hm with h | h
       · exact absurd h hx
       · exact h
      rw [getD_set_ne false hx];have:=ih hnd.2 hm';omega
  have:=key _ List.nodup_range (List.mem_range.2 hilt);omega
def zFn (S:List Nat) (w0:World) (Φs:List (Value→World→Prop)):List StoreSpec→Prop
 | []=>True
 | s :: ss=>(s.blk<w0.heap.size∧s.pre w0∧∀ w w',ExtS S w0 w→ExtS S w w'→w'.heap[s.blk]? = w.heap[s.blk]?→(s.pre w→s.pre w')∧(s.post w→s.post w'))∧zFn S w0 Φs ss
theorem zEU {S:List Nat} {w0:World}:∀ {l:List StoreSpec},zFn S w0 Φs l→∀ s∈l,s.blk<w0.heap.size∧s.pre w0∧∀ w w',ExtS S w0 w→ExtS S w w'→w'.heap[s.blk]? = w.heap[s.blk]?→(s.pre w→s.pre w')∧(s.post w→s.post w')
 | s :: l,hs,s',h=>by
  rcases List.mem_cons.1 h with rfl | h
  · exact hs.1
  · exact zEU hs.2 s' h
theorem wpe_drawG (ss:List StoreSpec) (Φs:List (Value→World→Prop)) (hm:P.follows .mixedOrders=true) (hok:zEM ops Φs ρ ss N=true) (hbk:zBX ops=true) (hbn:(ss.map (·.blk)).Nodup)
 (hmono:Monos (ss.map (·.blk)) w0 Φs) (hst:zFn (ss.map (·.blk)) w0 Φs ss) (hobl:OblsG P r ops Φs ρ w0 ss 0 ops)
 (hfin:∀ w',ExtS (ss.map (·.blk)) w0 w'→Posts w' ss→zBA Φs ops ρ w' (fun ρ'=>Q .normal ρ' δ w')):WPE P r N (.region id ops.toArray true) Q δ ρ w0:=fun a hf hd=>by
 have hdrawn:ExtS (ss.map (·.blk)) w0 { w0 with drawn:=w0.drawn+1 }:=(Ext.drawn _).toS _
 have hback:∀ j i,waits ops j i=true→i<j:=fun j i hw=>by
  unfold waits at hw;cases hj:ops[j]? with
  | none=>rw [hj] at hw;cases hw
  | some o =>
   rw [hj] at hw;obtain ⟨e,he,hb⟩:=List.any_eq_true.1 hw;simp only [Bool.and_eq_true,beq_iff_eq] at hb;have hjl:=(List.getElem?_eq_some_iff.1 hj).1;simp only [zBX,List.all_eq_true,List.mem_range] at hbk;have:=hbk j hjl;rw [hj] at this;have:=List.all_eq_true.1 this e he;simp [hb.1] at this;omega
 have hok':=hok;simp only [zEM,Bool.and_eq_true,decide_eq_true_eq] at hok';obtain ⟨⟨⟨⟨⟨hD,hlen⟩,hnd⟩,_⟩,_⟩,hops⟩:=hok';refine wpIn_region_any hm ?_;refine zHZ (δ:=δ) (N:=N) (Q:=lift N Q) hok (zDF hmono) (fun s hs=>(zEU hst s hs).2.2) (fun s hs=>(zEU hst s hs).1) hbn hobl ?_ ops.toArray.size (Array.replicate ops.toArray.size false) a _ ?_ ?_
 · intro listed a' w' inv hr;have hall:=zEz inv.size hback hr;have hposts:Posts w' ss:=zJk fun s hs=>(inv.stores s hs).1 (by
    have:s.idx<ops.length:=by
     simp only [zEM,Bool.and_eq_true,List.all_eq_true] at hok;have:=hok.1.1.2 s hs;cases hx:ops[s.idx]? with
     | none=>rw [hx] at this;cases this
     | some o=>exact (List.getElem?_eq_some_iff.1 hx).1
    exact hall _ this)
   have hex:∀ (i:Nat),∃ v:Value,(∀ (Ψ:Value→World→Prop),Φs[i]? = some Ψ→Ψ v w')∧∀ (o:Oper) (d:Nat),ops[i]? = some o→o.dst=some d→a'.tmps.getD d undef=v:=fun i=>by
    cases ho:ops[i]? with
    | none =>
     have:Φs[i]? = none:=by rw [List.getElem?_eq_none_iff] at ho ⊢;omega
     exact ⟨undef,(fun Ψ h=>by rw [this] at h;cases h),(fun o d h=>by cases h)⟩
    | some o =>
     have hil:=(List.getElem?_eq_some_iff.1 ho).1;obtain ⟨v,hv,he⟩:=inv.vals i o ho (hall i hil);refine ⟨v,fun Ψ h => ?_,fun o' d ho' hd => ?_⟩
     · have:phi Φs i=Ψ:=by simp [phi,h]
       rw [← this];exact hv
     · cases ho';exact he d hd
   obtain ⟨vs,hvs⟩:=Classical.axiomOfChoice hex;obtain ⟨ρ'',hk,he⟩:=zDj ops Φs ρ w' _ hlen (hfin w' inv.ext hposts) vs (fun k Ψ h=>(hvs k).1 Ψ h);obtain ⟨l1,l2,l3⟩:=zCa vs ops 0 ρ hnd;refine ⟨ρ'',⟨inv.tmps,fun t ht => ?_⟩,by rw [inv.defers];exact hk⟩;rw [he] at ht ⊢;by_cases hw:∃ (k:Nat) (o:Oper),ops[k]? = some o∧o.dst=some t
   · obtain ⟨k,o,hk,ho⟩:=hw;rw [l2 k o t hk ho,Nat.zero_add];exact (hvs k).2 o t hk ho
   · have hno:∀ (k:Nat) (o:Oper),ops[k]? = some o→o.dst≠some t:=fun k o hk ho=>hw ⟨k,o,hk,ho⟩;rw [l3 t hno];rcases l1 t ht with h | ⟨k,o,hk,ho⟩
     · exact inv.base t h (fun k o hk _=>hno k o hk)
     · exact absurd ho (hno k o hk)
 · exact Nat.le_trans List.countP_le_length (by simp)
 · refine ⟨by simp,fun j i h => ?_,hdrawn,hd,hf.size,fun i o _ h => ?_,fun t ht _=>hf.at_ t ht,fun s hs=>⟨fun h => ?_,fun _ => ?_⟩⟩
   · rw [getD_replicate_false'] at h;cases h
   · rw [getD_replicate_false'] at h;cases h
   · rw [getD_replicate_false'] at h;cases h
   · obtain ⟨h1,h2,h3⟩:=zEU hst s hs;exact (h3 w0 _ (ExtS.refl _ _) hdrawn rfl).1 h2
theorem zLq:∀ (os:List Oper) (k:Nat),(∀ (i:Nat) (o:Oper),os[i]? = some o→Obl1G P r ops Φs ρ w0 ss (k+i) o)→OblsG P r ops Φs ρ w0 ss k os
 | [],_,_=>trivial
 | o :: os,k,h=>⟨h 0 o rfl,zLq os (k+1) fun i o' ho=>by have:=h (i+1) o' (by simpa using ho);rwa [show k+(i+1)=k+1+i by omega] at this⟩
end step
end
section
def dRunE (P:Program) (r:Option Nat) (ss:List StoreSpec) (ρ:Env) (w0:World):Nat→List Oper→List Entry→List (Value→World→Prop)→(List (Value→World→Prop)→Prop)→Prop
 | _,[],_,Φs,K=>K Φs
 | i,o :: os,e :: es,Φs,K=>match ss.find? (fun s=>s.idx==i) with
  | some s=>∃ Φ:Value→World→Prop,(∀ v w w',ExtS (ss.map (·.blk)) w0 w→ExtS (ss.map (·.blk)) w w'→Φ v w→Φ v w')∧(∀ (σ:Nat→Value) (w:World),ExtS (ss.map (·.blk)) w0 w→s.pre w→KnowP Φs ρ w σ e.1→Runs P r o (lookσ σ) w (fun v w'=>ExtS [s.blk] w w'∧s.post w'∧Φ v w'))∧dRunE P r ss ρ w0 (i+1) os es (Φ :: Φs) K
  | none=>∃ Φ:Value→World→Prop,(∀ v w w',ExtS (ss.map (·.blk)) w0 w→ExtS (ss.map (·.blk)) w w'→Φ v w→Φ v w')∧OblS P r (ss.map (·.blk)) ρ w0 Φs o e Φ∧dRunE P r ss ρ w0 (i+1) os es (Φ :: Φs) K
 | _,_ :: _,[],_,_=>False
theorem zHg {ss:List StoreSpec} {K:List (Value→World→Prop)→Prop}:∀ (os:List Oper) (es:List Entry) (k:Nat) (Φs:List (Value→World→Prop)),Φs.length=k→dRunE P r ss ρ w0 k os es Φs K →
 ∃ Ψs:List (Value→World→Prop),Ψs.length=os.length∧K (Ψs.reverse++Φs)∧Monos (ss.map (·.blk)) w0 Ψs∧∀ (i:Nat) (o:Oper),os[i]? = some o→∃ e,es[i]? = some e ∧
  (match ss.find? (fun s=>s.idx==k+i) with
  | some s=>∀ (σ:Nat→Value) (w:World),ExtS (ss.map (·.blk)) w0 w→s.pre w→KnowP ((Ψs.take i).reverse++Φs) ρ w σ e.1→Runs P r o (lookσ σ) w (fun v w'=>ExtS [s.blk] w w'∧s.post w'∧Ψs.getD i (fun _ _=>True) v w')
  | none=>OblS P r (ss.map (·.blk)) ρ w0 ((Ψs.take i).reverse++Φs) o e (Ψs.getD i (fun _ _=>True)))
 | [],es,k,Φs,_,h=>⟨[],rfl,h,trivial,fun i o ho=>by simp at ho⟩
 | o :: os,[],k,Φs,hl,h=>h.elim
 | o :: os,e :: es,k,Φs,hl,h=>by
  unfold dRunE at h;cases hf:ss.find? (fun s=>s.idx==k) with
  | some s =>
   rw [hf] at h;obtain ⟨Φ,hs,hob,h⟩:=h;obtain ⟨Ψs,h1,h2,h3,h4⟩:=zHg os es (k+1) (Φ :: Φs) (by simp [hl]) h;refine ⟨Φ :: Ψs,by simp [h1],by simpa using h2,⟨hs,h3⟩,fun i o' ho => ?_⟩;cases i with
   | zero =>
    simp at ho;subst ho;refine ⟨e,rfl,?_⟩;rw [Nat.add_zero,hf];simpa using hob
   | succ i =>
    obtain ⟨e',he',h5⟩:=h4 i o' (by simpa using ho);refine ⟨e',by simpa using he',?_⟩;rw [show k+1+i=k+(i+1) from by omega] at h5;simpa using h5
  | none =>
   rw [hf] at h;obtain ⟨Φ,hs,hob,h⟩:=h;obtain ⟨Ψs,h1,h2,h3,h4⟩:=zHg os es (k+1) (Φ :: Φs) (by simp [hl]) h;refine ⟨Φ :: Ψs,by simp [h1],by simpa using h2,⟨hs,h3⟩,fun i o' ho => ?_⟩;cases i with
   | zero =>
    simp at ho;subst ho;refine ⟨e,rfl,?_⟩;rw [Nat.add_zero,hf];simpa using hob
   | succ i =>
    obtain ⟨e',he',h5⟩:=h4 i o' (by simpa using ho);refine ⟨e',by simpa using he',?_⟩;rw [show k+1+i=k+(i+1) from by omega] at h5;simpa using h5
theorem wpe_eff (ss:List StoreSpec) (pl:List Entry) (hm:P.follows .mixedOrders=true) (hok:zEM ops (ops.map fun _ _ _=>True) ρ ss N=true) (hbk:zBX ops=true) (hpl:zBS ops 0 ops=some pl) (hbn:(ss.map (·.blk)).Nodup)
 (hsn:ss.all (fun s=>match ss.find? (fun t=>t.idx==s.idx) with | some _=>decide (s.idx<ops.length) | none=>false)=true)
 (hst:∀ s∈ss,s.blk<w0.heap.size∧s.pre w0∧∀ w w',ExtS (ss.map (·.blk)) w0 w→ExtS (ss.map (·.blk)) w w'→w'.heap[s.blk]? = w.heap[s.blk]?→(s.pre w→s.pre w')∧(s.post w→s.post w'))
 (h:∀ K:List (Value→World→Prop)→Prop,(∀ Φs,(∀ w',ExtS (ss.map (·.blk)) w0 w'→Posts w' ss→zBA Φs.reverse ops ρ w' (fun ρ'=>Q .normal ρ' δ w'))→K Φs)→dRunE P r ss ρ w0 0 ops pl [] K):WPE P r N (.region id ops.toArray true) Q δ ρ w0:=by
 obtain ⟨Ψs,hl,hK,hmo,hob⟩:=zHg ops pl 0 [] rfl (h (fun Φs=>∀ w',ExtS (ss.map (·.blk)) w0 w'→Posts w' ss→zBA Φs.reverse ops ρ w' (fun ρ'=>Q .normal ρ' δ w')) (fun _ h=>h))
 simp only [List.append_nil,List.reverse_reverse,Nat.zero_add] at hK hob;have hb:=zEg hbk;have conv:∀ (i:Nat) (o:Oper) (e:Entry),ops[i]? = some o→pl[i]? = some e→∀ (σ:Nat→Value) (w:World),KnowL ops Ψs ρ w i σ (seesL ops o)→KnowP (Ψs.take i).reverse ρ w σ e.1:=fun i o e ho he σ w hk=>by
  have h1:=zBt ops pl 0 hpl i o e ho he;rw [Nat.zero_add] at h1;have hil:=(List.getElem?_eq_some_iff.1 ho).1;have hk2:KnowL ops ((Ψs.take i).reverse).reverse ρ w i σ (seesL ops o):=by
   rw [List.reverse_reverse];refine zCB (fun j v hw hp => ?_) hk;have hji:=hb _ _ hw;unfold phi at hp ⊢;simpa [List.getD_eq_getElem?_getD,List.getElem?_take,hji] using hp
  have hlen:((Ψs.take i).reverse).length=i:=by simp;omega
  have hkp:=zDU hlen hk2 (fun j hj=>hb i j hj);unfold zCI at h1;cases hg:o.guard with
  | none=>rw [hg] at h1;have h1:=Option.some.inj h1;subst h1;exact hkp
  | some gw =>
   obtain ⟨j,want⟩:=gw;rw [hg] at h1;simp only at h1;cases hj:(ops[j]?).bind (·.dst) with
   | none=>rw [hj] at h1;cases h1
   | some u=>rw [hj] at h1;have h1:=Option.some.inj h1;subst h1;exact hkp
 have hguard:∀ (i:Nat) (o:Oper) (e:Entry),ops[i]? = some o→pl[i]? = some e→(match o.guard with | none=>e.2=none | some (j,want)=>∃ u,(ops[j]?).bind (·.dst)=some u∧e.2=some (u,want)):=fun i o e ho he=>by
  have h1:=zBt ops pl 0 hpl i o e ho he;rw [Nat.zero_add] at h1;unfold zCI at h1;cases hg:o.guard with
  | none=>rw [hg] at h1;have h1:=Option.some.inj h1;subst h1;rfl
  | some gw =>
   obtain ⟨j,want⟩:=gw;rw [hg] at h1;simp only at h1 ⊢;cases hj:(ops[j]?).bind (·.dst) with
   | none=>rw [hj] at h1;cases h1
   | some u=>rw [hj] at h1;have h1:=Option.some.inj h1;subst h1;exact ⟨u,rfl,rfl⟩
 refine wpe_drawG ss Ψs hm ?_ hbk hbn hmo ?_ (zLq ops 0 fun i o ho => ?_) ?_
 · simp only [zEM,List.length_map,hl] at hok ⊢;exact hok
 · have:∀ l:List StoreSpec,(∀ s∈l,s∈ss)→zFn (ss.map (·.blk)) w0 Ψs l:=fun l=>by
    induction l with
    | nil=>exact fun _=>trivial
    | cons s l ih =>
     intro hsub;have hs:=hsub s (by simp);obtain ⟨h1,h2,h3⟩:=hst s hs;exact ⟨⟨h1,h2,h3⟩,ih fun s' hs'=>hsub s' (by simp [hs'])⟩
   exact this ss fun _ h=>h
 · rw [Nat.zero_add];intro σ w hE hk hS;obtain ⟨e,he,h6⟩:=hob i o ho;have hkp:=conv i o e ho he σ w hk
   have hgd:=hguard i o e ho he;cases hf:ss.find? (fun s=>s.idx==i) with
   | some s =>
    rw [hf] at h6;have hs:s∈ss:=List.mem_of_find?_eq_some hf;have hsi:s.idx=i:=by simpa using List.find?_some hf
    have hpre:s.pre w:=by
     have key:∀ l:List StoreSpec,s∈l→KnowS ops w i l→s.pre w:=fun l=>by
      induction l with
      | nil=>intro h;cases h
      | cons t l ih =>
       intro hm hk;rcases List.mem_cons.1 hm with rfl | hm
       · have:=hk.1;have hnw:waits ops i s.idx=false:=by
          cases hc:waits ops i s.idx with
          | false=>rfl
          | true=>have:=hb _ _ hc;omega
         rw [hnw] at this;simp only [Bool.false_eq_true,if_false] at this;rwa [if_pos (by simp [hsi])] at this
       · exact ih hm hk.2
     exact key ss hs hS
    have hrun:=h6 σ w hE hpre hkp;cases hg:o.guard with
    | none=>simp only [Obl0G,hf];exact hrun
    | some gw =>
     -- no store stands under a guard
     exfalso;simp only [zEM,Bool.and_eq_true,List.all_eq_true] at hok;have:=hok.1.1.2 s hs;rw [hsi,ho] at this;simp [hg] at this
   | none =>
    rw [hf] at h6;have h7:=h6 σ w hE hkp;have hphi:(Ψs.getD i fun _ _=>True)=phi Ψs i:=rfl;rw [hphi] at h7;cases hg:o.guard with
    | none =>
     rw [hg] at hgd;simp only at hgd;rw [hgd] at h7;simp only [Obl0G,hf];exact h7
    | some gw =>
     obtain ⟨j,want⟩:=gw;rw [hg] at hgd;obtain ⟨u,hu,he2⟩:=hgd;rw [he2] at h7;simp only [hu,Obl0G,hf];exact h7
 · intro w' hE hP;exact hK w' hE hP
theorem des {o:Oper} {e:Entry} (s:StoreSpec) (Φ:Value→World→Prop)
 (hf:ss.find? (fun s=>s.idx==i)=some s) (hs:∀ v w w',ExtS (ss.map (·.blk)) w0 w→ExtS (ss.map (·.blk)) w w'→Φ v w→Φ v w')
 (hob:∀ (σ:Nat→Value) (w:World),ExtS (ss.map (·.blk)) w0 w→s.pre w→KnowP Φs ρ w σ e.1→Runs P r o (lookσ σ) w (fun v w'=>ExtS [s.blk] w w'∧s.post w'∧Φ v w'))
 (h:dRunE P r ss ρ w0 (i+1) os es (Φ :: Φs) K):dRunE P r ss ρ w0 i (o :: os) (e :: es) Φs K:=by
 unfold dRunE;rw [hf];exact ⟨Φ,hs,hob,h⟩
theorem den {o:Oper} {l:List (Nat×Option Nat)} (Φ:Value→World→Prop)
 (hf:(ss.find? fun s=>s.idx==i).isNone=true)
 (hs:∀ v w w',ExtS (ss.map (·.blk)) w0 w→ExtS (ss.map (·.blk)) w w'→Φ v w→Φ v w')
 (hob:∀ (σ:Nat→Value) (w:World),ExtS (ss.map (·.blk)) w0 w→KnowP Φs ρ w σ l→Runs P r o (lookσ σ) w (fun v w'=>Ext w w'∧Φ v w'))
 (h:dRunE P r ss ρ w0 (i+1) os es (Φ :: Φs) K):dRunE P r ss ρ w0 i (o :: os) ((l,none) :: es) Φs K:=by
 unfold dRunE;rw [Option.isNone_iff_eq_none.1 hf];exact ⟨Φ,hs,fun σ w hE hk=>hob σ w hE hk,h⟩
theorem dev {o:Oper} {l:List (Nat×Option Nat)} 
 (hf:(ss.find? fun s=>s.idx==i).isNone=true)
 (hob:∀ (σ:Nat→Value) (w:World),ExtS (ss.map (·.blk)) w0 w→KnowP Φs ρ w σ l→Runs P r o (lookσ σ) w (fun v w'=>Ext w w'∧v=u))
 (h:dRunE P r ss ρ w0 (i+1) os es ((fun v _=>v=u) :: Φs) K):dRunE P r ss ρ w0 i (o :: os) ((l,none) :: es) Φs K :=
 den (fun v _=>v=u) hf (fun _ _ _ _ _ h=>h) hob h
theorem de_nil (h:K Φs):dRunE P r ss ρ w0 i [] es Φs K:=h
end
variable {fuel n0:Nat} {ρ':Env}
section
section step
theorem zIT (hok:zAO ops Φs ρ ss N=true) (hΦ:∀ i,∀ v w w',ExtS (ss.map (·.blk)) w0 w→ExtS (ss.map (·.blk)) w w'→phi Φs i v w→phi Φs i v w')
 (hst:∀ s∈ss,∀ w w',ExtS (ss.map (·.blk)) w0 w→ExtS (ss.map (·.blk)) w w'→w'.heap[s.blk]? = w.heap[s.blk]?→(s.pre w→s.pre w')∧(s.post w→s.post w'))
 (hblk:∀ s∈ss,s.blk<w0.heap.size) (hbn:(ss.map (·.blk)).Nodup)
 {a:Act} (inv:Inv (ops:=ops) (Φs:=Φs) (ρ:=ρ) (w0:=w0) (ss:=ss) N δ listed a w)
 (hob1:∀ o,ops[i]? = some o→Obl1 P r ops Φs ρ w0 ss i o) (hi:i∈Region.ready .any ops.toArray listed) {Q:Exit→Act→World→Prop} {K:Act→World→Prop}
 (hK:∀ a' w',Inv (ops:=ops) (Φs:=Φs) (ρ:=ρ) (w0:=w0) (ss:=ss) N δ (listed.setIfInBounds i true) a' w'→K a' w') :
 wpOpIn (W r) 0 P ops.toArray Q i K a w:=by
 simp only [zAO,Bool.and_eq_true,List.all_eq_true,decide_eq_true_eq,List.mem_range] at hok;obtain ⟨⟨⟨⟨⟨hD,hlen⟩,hnd⟩,hss⟩,hsn⟩,hops⟩:=hok;obtain ⟨hun,o,ho,hall⟩:=mem_ready.1 hi;have ho':ops[i]? = some o:=by simpa using ho
 have hilt:i<ops.length:=(List.getElem?_eq_some_iff.1 ho').1;have hunf:listed.getD i false=false:=by
  rcases Nat.lt_or_ge i listed.size with h | h
  · simp [h] at hun ⊢;exact hun
  · rw [inv.size] at h;omega
 have hdst:∀ (i:Nat) (o:Oper) (d:Nat),ops[i]? = some o→o.dst=some d→d<N:=fun j oj d hj hd=>by
  have hjlt:=(List.getElem?_eq_some_iff.1 hj).1;have:=hops j hjlt;rw [hj] at this;simp only [Bool.and_eq_true,hd,decide_eq_true_eq] at this;exact this.1.1.1
 have hoi:=hops i hilt;rw [ho'] at hoi;simp only [Bool.and_eq_true,List.all_eq_true] at hoi;obtain ⟨⟨⟨hoN,hsel0⟩,_⟩,hsee⟩:=hoi;have hsel:∀ cs b,o.op≠.select cs b:=fun cs b e=>by rw [e] at hsel0;cases hsel0
 have hdef:∀ c,o.op≠.defer c:=fun c e=>by rw [e] at hsel0;cases hsel0
 have hwait:∀ j,waits ops i j=true→listed.getD j false=true:=fun j hj=>by
  unfold waits at hj;rw [ho'] at hj;obtain ⟨e,he,hb⟩:=List.any_eq_true.1 hj;simp only [Bool.and_eq_true,beq_iff_eq] at hb;rw [← hb.2];exact hall e (by simpa using he) hb.1
 have hlater:∀ j,waits ops j i=true→listed.getD j false=false:=fun j hj=>by
  cases hl:listed.getD j false with
  | false=>rfl
  | true=>have:=inv.closed j i hl hj;rw [hunf] at this;cases this
 -- what is known of the slots that are seen
 have hknow:∀ t∈seesL ops o,KnowT ops Φs ρ w i t (a.tmps.getD t undef):=fun t ht=>by
  have h1:=hsee t ht;unfold KnowT;cases hwr:zCX ops t with
  | none =>
   rw [hwr] at h1;exact inv.base t (by simpa using h1) (fun k ok hk _=>zDO hwr k ok hk)
  | some j =>
   obtain ⟨oj,hoj,hdj⟩:=zBb hwr;rw [hwr] at h1;simp only [Bool.or_eq_true,Bool.and_eq_true] at h1;simp only [];by_cases hw:waits ops i j=true
   · rw [if_pos hw];have hf:ss.find? (fun s=>s.idx==j)=none:=by
      rw [List.find?_eq_none];intro s hs hsj;have:=hss s hs;rw [beq_iff_eq] at hsj;rw [hsj,hoj] at this;simp [hdj] at this
     obtain ⟨v,hv,he⟩:=inv.vals j oj hoj (hwait j hw) hf;rw [he t hdj];exact hv
   · rw [if_neg hw];rcases h1 with h1 | ⟨h1,h2⟩
     · exact absurd h1 hw
     · refine inv.base t (by simpa using h2) (fun k ok hk hlk hdk => ?_);have hkj:=zCg hnd hk hoj hdk hdj;subst hkj;rcases h1 with h1 | h1
       · rw [hlater k h1] at hlk;cases hlk
       · rw [beq_iff_eq] at h1;subst h1;rw [hunf] at hlk;cases hlk
 have hsk:∀ (l:List StoreSpec),(∀ s∈l,s∈ss)→KnowS ops w i l:=fun l=>by
  induction l with
  | nil=>intro _;trivial
  | cons s l ih =>
   intro hl;refine ⟨?_,ih fun s' hs'=>hl s' (by simp [hs'])⟩;have hs:=inv.stores s (hl s (by simp));split
   · rename_i hw;exact hs.1 (hwait _ hw)
   · split
     · rename_i h2;simp only [Bool.or_eq_true,beq_iff_eq] at h2;rcases h2 with h2 | h2
       · exact hs.2 (h2 ▸ hunf)
       · exact hs.2 (hlater _ h2)
     · trivial
 have hob:=hob1 o ho';have hob:=hob (fun t=>a.tmps.getD t undef) w inv.ext (zHG hknow) (hsk ss fun _ h=>h);have heval:∀ x,lookσ (fun t=>a.tmps.getD t undef) x=a.eval x:=fun x=>by cases x<;>rfl
 have hclosed':∀ j k,(listed.setIfInBounds i true).getD j false=true→waits ops j k=true→(listed.setIfInBounds i true).getD k false=true:=fun j k hj hw=>by
  by_cases hji:i=j
  · subst hji;exact getD_set_true (hwait k hw)
  · rw [getD_set_ne false hji] at hj;exact getD_set_true (inv.closed j k hj hw)
 have hset:(listed.setIfInBounds i true).getD i false=true:=by
  have:i<listed.size:=by rw [inv.size];exact hilt
  simp [this]
 have hput:∀ v t,o.dst≠some t→(a.put o.dst v).tmps.getD t undef=a.tmps.getD t undef:=fun v t ht=>by
  cases hd:o.dst with
  | none=>rfl
  | some d =>
   have hne:d≠t:=fun e=>ht (by rw [hd,e]);simp [Act.put,Array.getElem?_setIfInBounds_ne hne]
 have hputd:∀ v d,o.dst=some d→(a.put o.dst v).tmps.getD d undef=v:=fun v d hd=>by
  have:=hdst i o d ho' hd;rw [hd];simp [Act.put,inv.tmps,this]
 have hbase':∀ v,∀ t∈dom ρ,(∀ (k:Nat) (ok:Oper),ops[k]? = some ok→(listed.setIfInBounds i true).getD k false=true→ok.dst≠some t)→(a.put o.dst v).tmps.getD t undef=look1 ρ t:=fun v t ht hn=>by
  rw [hput v t (hn i o ho' hset)];exact inv.base t ht (fun k ok hk hlk=>hn k ok hk (getD_set_true hlk))
 have hvals':∀ v w',ExtS (ss.map (·.blk)) w w'→(ss.find? (fun s=>s.idx==i)=none→phi Φs i v w')→∀ (k:Nat) (ok:Oper),ops[k]? = some ok→(listed.setIfInBounds i true).getD k false=true→ss.find? (fun s=>s.idx==k)=none →
  ∃ u,phi Φs k u w'∧∀ d,ok.dst=some d→(a.put o.dst v).tmps.getD d undef=u:=fun v w' hx hv k ok hk hlk hf=>by
  by_cases hki:i=k
  · subst hki;have:ok=o:=Option.some.inj (hk.symm.trans ho');subst this;exact ⟨v,hv hf,fun d hd=>hputd v d hd⟩
  · rw [getD_set_ne false hki] at hlk;obtain ⟨u,hu,he⟩:=inv.vals k ok hk hlk hf;refine ⟨u,hΦ k u w w' inv.ext hx hu,fun d hd => ?_⟩;rw [hput v d (fun e=>hki (zCg hnd ho' hk e hd)),he d hd]
 have hde:∀ v,(a.put o.dst v).defers=δ:=fun v=>by rw [← inv.defers];cases o.dst<;>rfl
 have hsz:∀ v,(a.put o.dst v).tmps.size=N:=fun v=>by rw [← inv.tmps];cases o.dst<;>simp [Act.put]
 -- an operation that is no store
 have normal:∀ v w',Ext w w'→ss.find? (fun s=>s.idx==i)=none→phi Φs i v w'→K (a.put o.dst v) w':=fun v w' hx hf hv=>by
  refine hK _ _ ⟨by simp [inv.size],hclosed',inv.ext.trans (hx.toS _),hde v,hsz v,hvals' v w' (hx.toS _) (fun _=>hv),hbase' v,fun s hs => ?_⟩;have hsi:s.idx≠i:=fun e=>by
   have:=List.find?_eq_none.1 hf s hs;simp [e] at this
  rw [getD_set_ne false (Ne.symm hsi)];have hb:w'.heap[s.blk]? = w.heap[s.blk]? := Below.block hx _ (Nat.lt_of_lt_of_le (hblk s hs) inv.ext.size);have h2:=hst s hs w w' inv.ext (hx.toS _) hb;exact ⟨fun h=>h2.2 ((inv.stores s hs).1 h),fun h=>h2.1 ((inv.stores s hs).2 h)⟩
 have hwant:=zIY (o:=o) inv.tmps hdst;have go0:Obl0 P r Φs ss i o (fun t=>a.tmps.getD t undef) w→o.wpIn (W r) 0 P a w K Q:=fun h=>by
  unfold Obl0 at h;cases hf:ss.find? (fun s=>s.idx==i) with
  | none =>
   rw [hf] at h;refine (Runs.congr hsel hdef (fun x _=>heval x) h).wpIn ?_;rintro v w' ⟨hx,hv⟩;exact normal v w' hx hf hv
  | some s =>
   rw [hf] at h;have hs:s∈ss:=List.mem_of_find?_eq_some hf;have hsi:s.idx=i:=by simpa using List.find?_some hf
   refine (Runs.congr hsel hdef (fun x _=>heval x) h).wpIn ?_;rintro v w' ⟨hu,hp⟩;have hmem:s.blk∈ss.map (·.blk):=List.mem_map.2 ⟨s,hs,rfl⟩
   have hx:ExtS (ss.map (·.blk)) w w':=hu.toS hmem
   refine hK _ _ ⟨by simp [inv.size],hclosed',inv.ext.trans hx,hde v,hsz v,hvals' v w' hx (fun h0=>by rw [hf] at h0;cases h0),hbase' v,fun s' hs' => ?_⟩;by_cases hsi':s'.idx=i
   · have:s'=s:=by
      have:=(List.pairwise_map.1 (show ((ss.map (·.idx))).Pairwise (· ≠ ·) from hsn))
      exact Classical.byContradiction fun hne=>by
       rcases List.getElem_of_mem hs with ⟨x,hx1,hx2⟩;rcases List.getElem_of_mem hs' with ⟨y,hy1,hy2⟩;have hxy:x≠y:=fun e=>hne (by subst e;rw [← hx2,← hy2]);rcases Nat.lt_or_gt_of_ne hxy with h3 | h3
       · have:=(List.pairwise_iff_getElem.1 this) x y hx1 hy1 h3;rw [hx2,hy2] at this;exact this (hsi.trans hsi'.symm)
       · have:=(List.pairwise_iff_getElem.1 this) y x hy1 hx1 h3;rw [hx2,hy2] at this;exact this (hsi'.trans hsi.symm)
     subst this;rw [hsi',hset];exact ⟨fun _=>hp,fun h=>by cases h⟩
   · rw [getD_set_ne false (Ne.symm hsi')];have hne:s'.blk≠s.blk:=fun e=>by
      have hss':s'≠s:=fun e=>hsi' (e ▸ hsi);rcases List.getElem_of_mem hs with ⟨x,hx1,hx2⟩
      rcases List.getElem_of_mem hs' with ⟨y,hy1,hy2⟩;have hxy:x≠y:=fun e=>hss' (by subst e;rw [← hx2,← hy2]);have hpw:=List.pairwise_map.1 (show ((ss.map (·.blk))).Pairwise (· ≠ ·) from hbn)
      rcases Nat.lt_or_gt_of_ne hxy with h3 | h3
      · have:=(List.pairwise_iff_getElem.1 hpw) x y hx1 hy1 h3;rw [hx2,hy2] at this;exact this e.symm
      · have:=(List.pairwise_iff_getElem.1 hpw) y x hy1 hx1 h3;rw [hx2,hy2] at this;exact this e
     have h2:=hst s' hs' w w' inv.ext hx (hu.block _ hne);exact ⟨fun h=>h2.2 ((inv.stores s' hs').1 h),fun h=>h2.1 ((inv.stores s' hs').2 h)⟩
 unfold wpOpIn;simp only [List.getElem?_toArray,ho'];cases hg:o.guard with
 | none =>
  rw [hg] at hob hwant;simp only at hob hwant;rw [hwant];simp only [if_true];exact go0 hob
 | some gw =>
  obtain ⟨j,want⟩:=gw;rw [hg] at hob hwant;simp only at hob hwant;have hnost:ss.find? (fun s=>s.idx==i)=none:=by
   rw [List.find?_eq_none];intro s hs hsj;have:=hss s hs;rw [beq_iff_eq] at hsj;rw [hsj,ho'] at this;simp [hg] at this
  cases hj:(ops[j]?).bind (·.dst) with
  | none=>rw [hj] at hob;exact hob.elim
  | some t =>
   rw [hj] at hob hwant;simp only at hob hwant;by_cases hb:a.tmps.getD t undef = .bool want
   · rw [hb] at hwant;simp only [yes,beq_self_eq_true] at hwant;rw [hwant];simp only [if_true];exact go0 (hob.1 hb)
   · rw [hwant,zKx hb];simp only [Bool.false_eq_true,if_false];exact ⟨fun _ _=>trivial,normal undef w (Ext.refl w) hnost (hob.2 hb)⟩
end step
def zGA (ops:List Oper) (n0:Nat):Bool:=(List.range ops.length).all fun j=>decide (j<n0) || (List.range j).all fun i=>waits ops j i || decide (i<n0)&&(List.range j).any fun k=>waits ops j k&&waits ops k i
theorem zNW (h:zGA ops n0=true) (hj:n0≤j) (hl:j<ops.length) (hi:i<j):waits ops j i=true∨i<n0∧∃ k,waits ops j k=true∧waits ops k i=true:=by
 simp only [zGA,List.all_eq_true,List.mem_range,Bool.or_eq_true,Bool.and_eq_true,decide_eq_true_eq,List.any_eq_true] at h;rcases h j hl with h | h
 · omega
 · rcases h i hi with h | ⟨h1,k,-,h2,h3⟩
   · exact .inl h
   · exact .inr ⟨h1,k,h2,h3⟩
theorem tail_of (h:zGA ops n0=true) (hj:n0≤j) (hl:j<ops.length) (hi:i<j) (hn:n0≤i):waits ops j i=true:=by
 rcases zNW h hj hl hi with h | ⟨h,-⟩
 · exact h
 · omega
theorem zCS (hi:i∈Region.ready .any ops.toArray listed):listed.getD i true=false∧i<ops.length∧∀ j,waits ops i j=true→listed.getD j false=true:=by
 obtain ⟨hun,o,ho,hall⟩:=mem_ready.1 hi;have ho':ops[i]? = some o:=by simpa using ho
 refine ⟨hun,(List.getElem?_eq_some_iff.1 ho').1,fun j hj => ?_⟩;unfold waits at hj;rw [ho'] at hj;obtain ⟨e,he,hb⟩:=List.any_eq_true.1 hj;simp only [Bool.and_eq_true,beq_iff_eq] at hb;rw [← hb.2];exact hall e (by simpa using he) hb.1
theorem zMC (hs:listed.size=ops.length) (hback:∀ j i,waits ops j i=true→i<j) (hk:k<ops.length) (hd:∀ j,j<k→listed.getD j false=true) (hf:listed.getD k false=false):k∈Region.ready .any ops.toArray listed:=by
 refine mem_ready.2 ⟨?_,ops[k],by simp [hk],fun e he hb => ?_⟩
 · have:k<listed.size:=by omega
   simp [this] at hf ⊢;exact hf
 · have hw:waits ops k e.on=true:=by
    unfold waits;simp only [List.getElem?_eq_getElem hk];exact List.any_eq_true.2 ⟨e,by simpa using he,by simp [hb]⟩
   exact hd _ (hback _ _ hw)
theorem tail_run' {n0:Nat} (htt:∀ j i,n0≤j→j<ops.length→i<j→n0≤i→waits ops j i=true) (hback:∀ j i,waits ops j i=true→i<j) {Q:Exit→Act→World→Prop}:∀ (os:List Oper) (k:Nat) (fuel:Nat) (listed:Array Bool) (ρ:Env) (a:Act) (w:World) (K:Env→World→Prop),
 ops.drop k=os→n0≤k→listed.size=ops.length→(∀ j,j<k→listed.getD j false=true)→(∀ j,k≤j→listed.getD j false=false)→os.length≤fuel →
 okOps N ops os (dom ρ)=true→(∀ t∈dom ρ,t<N)→Fr N a ρ→zAH P r ops os ρ w K→(∀ a' ρ' w',Fr N a' ρ'→a'.defers=a.defers→K ρ' w'→Q .normal a' w') →
 wpAnyIn (W r) 0 P .any ops.toArray Q fuel listed a w
 | [],k,fuel,listed,ρ,a,w,K,hdr,hk0,hsz,hd,hu,hfu,hok,hdom,hf,hs,hk=>by
  have hkl:ops.length≤k:=by
   have:=congrArg List.length hdr;simp at this;omega
  have hr:Region.ready .any ops.toArray listed=[]:=by
   rw [List.eq_nil_iff_forall_not_mem];intro i hi;obtain ⟨h1,h2,_⟩:=zCS hi;have h3:=hd i (by omega);have:i<listed.size:=by omega
   simp [this] at h1 h3;rw [h1] at h3;cases h3
  have hq:=hk a ρ w hf rfl hs;cases fuel with
  | zero=>exact ⟨hr,hq⟩
  | succ f=>exact ⟨fun _=>hq,fun i hi=>by rw [hr] at hi;cases hi⟩
 | o :: os,k,0,listed,ρ,a,w,K,hdr,hk0,hsz,hd,hu,hfu,hok,hdom,hf,hs,hk=>by simp at hfu
 | o :: os,k,fuel+1,listed,ρ,a,w,K,hdr,hk0,hsz,hd,hu,hfu,hok,hdom,hf,hs,hk=>by
  have hkl:k<ops.length:=by
   have:=congrArg List.length hdr;simp at this;omega
  have hko:ops[k]? = some o:=by
   have:=congrArg (fun l=>l[0]?) hdr;simpa using this
  have hdr':ops.drop (k+1)=os:=by
   have:=congrArg (fun l=>l.drop 1) hdr;simpa [List.drop_drop] using this
  have hrk:=zMC hsz hback hkl hd (hu k (Nat.le_refl _));refine ⟨fun h=>absurd hrk (by rw [h];simp),fun i hi => ?_⟩;obtain ⟨g1,g2,g3⟩:=zCS hi;have hik:i=k:=by
   rcases Nat.lt_trichotomy i k with h | h | h
   · have h3:=hd i h;have:i<listed.size:=by omega
     simp [this] at g1 h3;rw [g1] at h3;cases h3
   · exact h
   · have h3:=g3 k (htt i k (by omega) g2 h hk0);rw [hu k (Nat.le_refl _)] at h3;cases h3
  subst hik;simp only [okOps,Bool.and_eq_true,List.all_eq_true,List.contains_iff_mem] at hok;obtain ⟨⟨⟨h1,h2⟩,h3⟩,h4⟩:=hok;have hd2:∀ d,o.dst=some d→d<N:=fun d hd=>by simpa [hd] using h2
  have hdomx:∀ v,dom (ext ρ o.dst v)=(match o.dst with | some d=>d :: dom ρ | none=>dom ρ):=fun v=>by cases o.dst<;>rfl
  have hdom':∀ v,∀ t∈dom (ext ρ o.dst v),t<N:=fun v t ht=>by
   cases hdd:o.dst with
   | none=>rw [hdd] at ht;exact hdom t ht
   | some d =>
    rw [hdd] at ht;simp only [ext,dom,List.map_cons,List.mem_cons] at ht;rcases ht with rfl | ht
    · exact hd2 _ hdd
    · exact hdom t ht
  have next:∀ v w',zAH P r ops os (ext ρ o.dst v) w' K→wpAnyIn (W r) 0 P .any ops.toArray Q fuel (listed.setIfInBounds i true) (a.put o.dst v) w':=fun v w' h' =>
   tail_run' htt hback os (i+1) fuel _ (ext ρ o.dst v) (a.put o.dst v) w' K hdr' (by omega) (by simp [hsz]) (fun j hj=>by
    by_cases e:i=j
    · subst e;have:i<listed.size:=by omega
      simp [this]
    · rw [getD_set_ne false e];exact hd j (by omega)) (fun j hj=>by rw [getD_set_ne false (by omega)];exact hu j (by omega)) (by simp at hfu;omega)
    (by rw [hdomx];exact h4) (hdom' v) (hf.put o.dst v hd2) h' (fun a' ρ' w'' hf' hde hk'=>hk a' ρ' w'' hf' (by rw [hde];cases o.dst<;>rfl) hk')
  have hw:=hf.wanted (ops:=ops) (o:=o) h1 hdom;have hsel:∀ cs b,o.op≠.select cs b:=fun cs b e=>by rw [e] at h3;cases h3
  have hdef:∀ c,o.op≠.defer c:=fun c e=>by rw [e] at h3;cases h3
  unfold wpOpIn;simp only [List.getElem?_toArray,hko];rw [hw];simp only [zAH] at hs;split
  · rename_i hw';rw [if_pos hw'] at hs;refine (Runs.congr (σ':=a.eval) hsel hdef ?_ hs).wpIn next
    intro x hx;refine (hf.eval x fun t e=>h1 t ?_).symm;subst e;exact List.mem_append_left _ (zCN (by simpa using hx))
  · rename_i hw';rw [if_neg hw'] at hs;exact ⟨fun _ _=>trivial,next _ _ hs⟩
theorem op_extract_inv {d:Tmp} {f:Nat} {Q:Exit→Act→World→Prop} {K:Act→World→Prop} {a:Act} (hof:ops[f]? = some ⟨some d,.extract x i,ty,pos,af,none⟩)
 (h:wpOpIn (W r) 0 P ops.toArray Q f K a w):∃ vs v,a.eval x = .tuple vs∧vs[i]? = some v∧K (a.put (some d) v) w:=by
 unfold wpOpIn at h;simp only [List.getElem?_toArray,hof,Region.wanted,if_true] at h;have h2:=h.2;rw [zBu (fun c e=>by cases e)] at h2;cases hx:a.eval x with
 | tuple vs =>
  cases hv:vs[i]? with
  | some v =>
   refine ⟨vs,v,rfl,hv,?_⟩;have e:(execOp a.eval ⟨some d,.extract x i,ty,pos,af,none⟩).run P w = .ok (.value v) w:=by simp [execOp,Instr.extract,hx,hv]
   rw [e] at h2;exact h2
  | none =>
   exfalso;simp [execOp,Instr.extract,hx,hv,Oper.uponIn] at h2
 | _ =>
  exfalso;simp [execOp,Instr.extract,hx,Oper.uponIn] at h2
def zJe (ops:List Oper) (n0 f:Nat):Bool:=decide (f<n0) && !waits ops n0 f&&match ops[f]?,ops[n0]? with
 | some a,some o=>a.guard.isNone&&(match a.op with | .extract _ _=>true | _=>false)&&(match a.dst with | some d => !(seesL ops o).contains d | none=>false)&&o.guard.isNone&&o.dst.isNone
 | _,_=>false
theorem float_step {f:Nat} {o:Oper} {d:Tmp} {a:Act} {K:Env→World→Prop} {Q:Exit→Act→World→Prop} 
 (htt:∀ j i,n0≤j→j<ops.length→i<j→n0≤i→waits ops j i=true) (hback:∀ j i,waits ops j i=true→i<j) (htf:∀ j,n0<j→j<ops.length→waits ops j f=true∨∃ k,waits ops j k=true∧waits ops k f=true) (hfn:f<n0) (hwf:waits ops n0 f=false)
 (hof:ops[f]? = some ⟨some d,.extract x i,ty,pos,af,none⟩) (hdr:ops.drop n0=o :: os) (hog:o.guard=none) (hod:o.dst=none) (hox:d ∉ seesL ops o)
 (hsz:listed.size=ops.length) (hcl:∀ j i,listed.getD j false=true→waits ops j i=true→listed.getD i false=true) (hall:∀ j,j<n0→j≠f→listed.getD j false=true) (hf0:listed.getD f false=false) (hun:∀ j,n0≤j→listed.getD j false=false)
 (hx:a.eval x = .tuple vs) (hv:vs[i]? = some u) (hF:Fr N (a.put (some d) u) ρ') (hdN:d<N) (hok:okOps N ops (o :: os) (dom ρ')=true) (hdom:∀ t∈dom ρ',t<N) (hs:zAH P r ops (o :: os) ρ' w K)
 (hq:∀ a' ρ' w',Fr N a' ρ'→a'.defers=a.defers→K ρ' w'→Q .normal a' w') (hfu:os.length<fuel) :
 wpOpIn (W r) 0 P ops.toArray Q n0 (wpAnyIn (W r) 0 P .any ops.toArray Q fuel (listed.setIfInBounds n0 true)) a w:=by
 have hnl:n0<ops.length:=by
  have:=congrArg List.length hdr;simp at this;omega
 have hko:ops[n0]? = some o:=by
  have:=congrArg (fun l=>l[0]?) hdr;simpa using this
 have hdr':ops.drop (n0+1)=os:=by
  have:=congrArg (fun l=>l.drop 1) hdr;simpa [List.drop_drop] using this
 simp only [okOps,Bool.and_eq_true,List.all_eq_true,List.contains_iff_mem] at hok;obtain ⟨⟨⟨h1,h2⟩,h3⟩,h4⟩:=hok;have hsel:∀ cs b,o.op≠.select cs b:=fun cs b e=>by rw [e] at h3;cases h3
 have hdef:∀ c,o.op≠.defer c:=fun c e=>by rw [e] at h3;cases h3
 unfold wpOpIn;simp only [List.getElem?_toArray,hko];rw [if_pos (by simp [Region.wanted,hog])];simp only [zAH] at hs;rw [if_pos (by simp [zBV,hog])] at hs;refine (Runs.congr (σ':=a.eval) hsel hdef ?_ hs).wpIn fun v w' hs' => ?_
 · intro y hy;have hsee:∀ t,y = .tmp t→t∈seesL ops o:=fun t e=>by
    subst e;exact List.mem_append_left _ (zCN (by simpa using hy))
   · rw [← hF.eval y fun t e=>h1 t (hsee t e)];cases y with
     | tmp t =>
      have hne:t≠d:=fun e=>hox (e ▸ hsee t rfl);show (a.tmps.setIfInBounds d u).getD t undef=a.tmps.getD t undef;simp [Array.getD_eq_getD_getElem?,Array.getElem?_setIfInBounds,Ne.symm hne]
     | _=>rfl
 · rw [hod] at hs' h4 ⊢;show wpAnyIn _ _ _ _ _ _ fuel _ a w';obtain ⟨g,rfl⟩:∃ g,fuel=g+1:=⟨fuel-1,by omega⟩;have hl2:∀ j,j≠n0→(listed.setIfInBounds n0 true).getD j false=listed.getD j false:=fun j hj=>getD_set_ne false (Ne.symm hj);have hl3:(listed.setIfInBounds n0 true).getD n0 false=true:=by
    have:n0<listed.size:=by omega
    simp [this]
   have hrf:f∈Region.ready .any ops.toArray (listed.setIfInBounds n0 true):=by
    refine mem_ready.2 ⟨?_,_,by simpa using hof,fun e he hb => ?_⟩
    · have h5:(listed.setIfInBounds n0 true).getD f false=false:=by rw [hl2 f (by omega)];exact hf0
      have h6:f<(listed.setIfInBounds n0 true).size:=by simp;omega
      simp only [Array.getD_eq_getD_getElem?,Array.getElem?_eq_getElem h6,Option.getD_some] at h5 ⊢;exact h5
    · have hw:waits ops f e.on=true:=by
       unfold waits;rw [hof];exact List.any_eq_true.2 ⟨e,by simpa using he,by simp [hb]⟩
      have:=hback _ _ hw;rw [hl2 _ (by omega)];exact hall _ (by omega) (by omega)
   refine ⟨fun h=>absurd hrf (by rw [h];simp),fun i' hi' => ?_⟩;obtain ⟨g1,g2,g3⟩:=zCS hi';have hif:i'=f:=by
    have hu':(listed.setIfInBounds n0 true).getD i' false=false:=by
     have h6:i'<(listed.setIfInBounds n0 true).size:=by simp;omega
     simp only [Array.getD_eq_getD_getElem?,Array.getElem?_eq_getElem h6,Option.getD_some] at g1 ⊢;exact g1
    rcases Nat.lt_trichotomy i' n0 with h | h | h
    · refine Classical.byContradiction fun hne => ?_;rw [hl2 _ (by omega),hall i' h hne] at hu';cases hu'
    · rw [h,hl3] at hu';cases hu'
    · exfalso;rcases htf i' h g2 with e | ⟨k,e1,e2⟩
      · have:=g3 f e;rw [hl2 _ (by omega),hf0] at this;cases this
      · have h7:=g3 k e1;by_cases hk:k=n0
        · rw [hk,hwf] at e2;cases e2
        · rw [hl2 _ hk] at h7;have:=hcl k f h7 e2;rw [hf0] at this;cases this
   subst hif;have hgo:Runs P r ⟨some d,.extract x i,ty,pos,af,none⟩ a.eval w' (fun v w''=>v=u∧w''=w'):=zBK hx hv ⟨rfl,rfl⟩;unfold wpOpIn;simp only [List.getElem?_toArray,hof];rw [if_pos (by simp [Region.wanted])];refine hgo.wpIn fun v w'' hvw => ?_;obtain ⟨rfl,rfl⟩:=hvw;refine tail_run' htt hback os (n0+1) g _ ρ' _ _ K hdr' (by omega) (by simp [hsz]) (fun j hj => ?_) (fun j hj => ?_) (by omega) h4 hdom hF hs' (fun a' ρ'' w3 hf' hde hk'=>hq a' ρ'' w3 hf' hde hk')
   · by_cases e:i'=j
     · subst e;have:i'<(listed.setIfInBounds n0 true).size:=by simp;omega
       rw [Array.getD_eq_getD_getElem?,Array.getElem?_setIfInBounds_self_of_lt this];rfl
     · rw [getD_set_ne false e];by_cases e2:j=n0
       · rw [e2];exact hl3
       · rw [hl2 _ e2];exact hall j (by omega) (Ne.symm e)
   · rw [getD_set_ne false (by omega),hl2 _ (by omega)];exact hun j (by omega)
def zEN (ops:List Oper) (n0:Nat) (fl:Option Nat):Bool:=(List.range ops.length).all fun j=>decide (j<n0) || (List.range j).all fun i=>waits ops j i || decide (i<n0)&&((List.range j).any (fun k=>waits ops j k&&waits ops k i) || decide (j=n0)&&fl==some i)
theorem zMO {fl:Option Nat} (h:zEN ops n0 fl=true) (hj:n0≤j) (hl:j<ops.length) (hi:i<j):waits ops j i=true∨(i<n0∧∃ k,waits ops j k=true∧waits ops k i=true)∨(j=n0∧fl=some i):=by
 simp only [zEN,List.all_eq_true,List.mem_range,Bool.or_eq_true,Bool.and_eq_true,decide_eq_true_eq,List.any_eq_true,beq_iff_eq] at h;rcases h j hl with h | h
 · omega
 · rcases h i hi with h | ⟨h1,⟨k,-,h2,h3⟩ | h2⟩
   · exact .inl h
   · exact .inr (.inl ⟨h1,k,h2,h3⟩)
   · exact .inr (.inr h2)
theorem zMP {fl:Option Nat} (h:zEN ops n0 fl=true) (j i:Nat) (hj:n0≤j) (hl:j<ops.length) (hi:i<j) (hn:n0≤i):waits ops j i=true:=by
 simp only [zEN,List.all_eq_true,List.mem_range,Bool.or_eq_true,Bool.and_eq_true,decide_eq_true_eq,List.any_eq_true,beq_iff_eq] at h;rcases h j hl with h | h
 · omega
 · rcases h i hi with h | ⟨h1,-⟩
   · exact h
   · omega
theorem tailF_none (h:zGA ops n0=true):zEN ops n0 none=true:=by
 simp only [zEN,zGA,List.all_eq_true,List.mem_range,Bool.or_eq_true,Bool.and_eq_true,decide_eq_true_eq] at h ⊢;intro j hj;rcases h j hj with h | h
 · exact .inl h
 · refine .inr fun i hi => ?_;rcases h i hi with h | ⟨h1,h2⟩
   · exact .inl h
   · exact .inr ⟨h1,.inl h2⟩
theorem zLU {n0:Nat} (hok:zAO ops Φs ρ [] N=true) (hback:∀ j i,waits ops j i=true→i<j) {fl:Option Nat} (hfl:∀ f,fl=some f→zJe ops n0 f=true) (htl:zEN ops n0 fl=true) (hn0:n0≤ops.length)
 (hΦ:∀ i,∀ v w w',ExtS [] w0 w→ExtS [] w w'→phi Φs i v w→phi Φs i v w')
 (hob:∀ i o,i<n0→ops[i]? = some o→Obl1 P r ops Φs ρ w0 [] i o) {Q:Exit→Act→World→Prop}
 {K:Env→World→Prop}
 (hgo:∀ listed a w,Inv (ops:=ops) (Φs:=Φs) (ρ:=ρ) (w0:=w0) (ss:=[]) N δ listed a w→(∀ j,j<n0→listed.getD j false=true)→(∀ j,n0≤j→listed.getD j false=false)→∃ ρ',Fr N a ρ'∧okOps N ops (ops.drop n0) (dom ρ')=true∧(∀ t∈dom ρ',t<N)∧zAH P r ops (ops.drop n0) ρ' w K)
 (hq:∀ a' ρ' w',Fr N a' ρ'→a'.defers=δ→K ρ' w'→Q .normal a' w') :
 ∀ (m:Nat) (listed:Array Bool) (a:Act) (w:World),(List.range n0).countP (fun j => !listed.getD j false)=m→(∀ j,n0≤j→listed.getD j false=false)→Inv (ops:=ops) (Φs:=Φs) (ρ:=ρ) (w0:=w0) (ss:=[]) N δ listed a w→∀ fuel,m+(ops.length-n0)≤fuel→wpAnyIn (W r) 0 P .any ops.toArray Q fuel listed a w
 | 0,listed,a,w,hc,hu,inv,fuel,hfu=>by
  have hall:∀ j,j<n0→listed.getD j false=true:=fun j hj=>by
   rw [List.countP_eq_zero] at hc;have:=hc j (List.mem_range.2 hj);simpa using this
  obtain ⟨ρ',q1,q2,q3,q4⟩:=hgo listed a w inv hall hu;exact tail_run' (zMP htl) hback (ops.drop n0) n0 fuel listed ρ' a w K rfl (Nat.le_refl _) inv.size hall hu (by simp;omega) q2 q3 q1 q4 (fun a' ρ'' w' h1 h2 h3=>hq a' ρ'' w' h1 (h2.trans inv.defers) h3)
 | m+1,listed,a,w,hc,hu,inv,0,hfu=>by omega
 | m+1,listed,a,w,hc,hu,inv,fuel+1,hfu=>by
  obtain ⟨x,hx1,hx2⟩:∃ x,x<n0∧listed.getD x false=false:=by
   have:0<(List.range n0).countP (fun j => !listed.getD j false):=by omega
   obtain ⟨x,h1,h2⟩:=List.countP_pos_iff.1 this;exact ⟨x,List.mem_range.1 h1,by simpa using h2⟩
  refine ⟨fun h => ?_,fun i hi => ?_⟩
  · have:=zEz inv.size hback h x (by omega);rw [hx2] at this;cases this
  · obtain ⟨g1,g2,g3⟩:=zCS hi;rcases Nat.lt_or_ge i n0 with hin | hge
    rotate_left
    · have hbad:∀ y,y<n0→listed.getD y false=false→i=n0∧fl=some y:=fun y hy hy2=>by
       rcases zMO htl hge g2 (show y<i by omega) with e | ⟨-,k,e1,e2⟩ | e
       · rw [g3 y e] at hy2;cases hy2
       · rw [inv.closed k y (g3 k e1) e2] at hy2;cases hy2
       · exact e
      obtain ⟨rfl,hfx⟩:=hbad x hx1 hx2;have hfo:=hfl x hfx;unfold zJe at hfo;simp only [Bool.and_eq_true,decide_eq_true_eq,Bool.not_eq_true'] at hfo;obtain ⟨⟨-,hwf⟩,hm⟩:=hfo;cases hoa:ops[x]? with
      | none=>rw [hoa] at hm;cases hm
      | some oa =>
      cases hoo:ops[i]? with
      | none=>rw [List.getElem?_eq_none_iff] at hoo;omega
      | some o =>
      rw [hoa,hoo] at hm;simp only [Bool.and_eq_true,Option.isNone_iff_eq_none] at hm;obtain ⟨⟨⟨⟨m1,m2⟩,m3⟩,m4⟩,m5⟩:=hm;obtain ⟨ad,aop,aty,apos,aaf,ag⟩:=oa;simp only at m1 m2 m3;subst m1;cases ad with
      | none=>cases m3
      | some d =>
      cases aop with
      | extract tx ti =>
       have hxr:x∈Region.ready .any ops.toArray listed:=by
        refine mem_ready.2 ⟨?_,_,by simpa using hoa,fun e he hb => ?_⟩
        · have h6:x<listed.size:=by rw [inv.size];omega
          simp only [Array.getD_eq_getD_getElem?,Array.getElem?_eq_getElem h6,Option.getD_some] at hx2 ⊢;exact hx2
        · have hw:waits ops x e.on=true:=by
           unfold waits;rw [hoa];exact List.any_eq_true.2 ⟨e,by simpa using he,by simp [hb]⟩
          have:=hback _ _ hw;refine Classical.byContradiction fun hn => ?_;have h8:=(hbad e.on (by omega) (by simpa using hn)).2;rw [hfx] at h8;have:=Option.some.inj h8;omega
       have hst:=zIT hok hΦ (fun s hs=>by cases hs) (fun s hs=>by cases hs) (by simp) inv (fun o ho=>hob x o hx1 ho) hxr (Q:=Q) (K:=fun a' w'=>Inv (ops:=ops) (Φs:=Φs) (ρ:=ρ) (w0:=w0) (ss:=[]) N δ (listed.setIfInBounds x true) a' w') (fun _ _ h=>h);obtain ⟨vs,u,q1,q2,q3⟩:=op_extract_inv hoa hst;have hxs:x<listed.size:=by rw [inv.size];omega
       obtain ⟨ρ',p1,p2,p3,p4⟩:=hgo _ _ _ q3 (fun j hj=>by
        by_cases e:x=j
        · subst e;rw [Array.getD_eq_getD_getElem?,Array.getElem?_setIfInBounds_self_of_lt hxs];rfl
        · rw [getD_set_ne false e];refine Classical.byContradiction fun hn => ?_;have h8:=(hbad j hj (by simpa using hn)).2;rw [hfx] at h8;exact e (Option.some.inj h8)) (fun j hj=>by rw [getD_set_ne false (by omega)];exact hu j hj)
       have hdrop:ops.drop i=o :: ops.drop (i+1):=by
        rw [List.drop_eq_getElem_cons g2];congr 1;rw [List.getElem?_eq_getElem g2] at hoo;exact Option.some.inj hoo
       rw [hdrop] at p2 p4;have hdN:d<N:=by
        simp only [zAO,Bool.and_eq_true,List.all_eq_true,decide_eq_true_eq,List.mem_range] at hok;have:=hok.2 x (by omega);rw [hoa] at this;simp only [Bool.and_eq_true,decide_eq_true_eq] at this;exact this.1.1.1
       refine float_step (zMP htl) hback (fun j h1 h2 => ?_) hx1 hwf hoa hdrop m4 m5 (by simpa using m3) inv.size inv.closed (fun j h1 h2 => ?_) hx2 hu q1 q2 p1 hdN p2 p3 p4 (fun a' ρ'' w' h1 h2 h3=>hq a' ρ'' w' h1 (h2.trans inv.defers) h3) (by simp;omega)
       · rcases zMO htl (show i≤j by omega) h2 (show x<j by omega) with e | ⟨-,k,e1,e2⟩ | ⟨e,-⟩
         · exact .inl e
         · exact .inr ⟨k,e1,e2⟩
         · omega
       · refine Classical.byContradiction fun hn => ?_;have h8:=(hbad j h1 (by simpa using hn)).2;rw [hfx] at h8;exact h2 (Option.some.inj h8).symm
      | _=>cases m2
    have hlt:i<listed.size:=by rw [inv.size];exact g2
    have hunf:listed.getD i false=false:=by simp [hlt] at g1 ⊢;exact g1
    refine zIT hok hΦ (fun s hs=>by cases hs) (fun s hs=>by cases hs) (by simp) inv (fun o ho=>hob i o hin ho) hi fun a' w' inv'=>zLU hok hback hfl htl hn0 hΦ hob hgo hq m _ a' w' ?_ (fun j hj=>by rw [getD_set_ne false (by omega)];exact hu j hj) inv' fuel (by omega);have key:∀ (l:List Nat),l.Nodup→(i∈l→l.countP (fun j => !(listed.setIfInBounds i true).getD j false)+1=l.countP (fun j => !listed.getD j false))∧(i ∉ l→l.countP (fun j => !(listed.setIfInBounds i true).getD j false)=l.countP (fun j => !listed.getD j false)):=by
     intro l
     induction l with
     | nil=>exact fun _=>⟨fun h=>absurd h (by simp),fun _=>rfl⟩
     | cons y l ih =>
      intro hnd;rw [List.nodup_cons] at hnd;obtain ⟨i1,i2⟩:=ih hnd.2;refine ⟨fun hm => ?_,fun hm => ?_⟩
      · by_cases hy:i=y
        · subst hy;have h1:(listed.setIfInBounds i true).getD i false=true:=by simp [hlt]
          rw [List.countP_cons,List.countP_cons,h1,hunf,i2 hnd.1];simp
        · have hm':i∈l:=by
           rcases List.mem_cons.1 hm with h | h
           · exact absurd h hy
           · exact h
          rw [List.countP_cons,List.countP_cons,getD_set_ne false hy];have:=i1 hm';omega
      · have hy:i≠y:=fun e=>hm (by simp [e]);rw [List.countP_cons,List.countP_cons,getD_set_ne false hy,i2 (fun h=>hm (by simp [h]))]
    have:=(key _ List.nodup_range).1 (List.mem_range.2 hin);omega
def domX (l:List Oper) (d:List Nat):List Nat:=l.foldl (fun d o=>match o.dst with | some t=>t :: d | none=>d) d
theorem zEj (vs:Nat→Value):∀ (os:List Oper) (n:Nat) (ρ:Env),dom ((os.zipIdx n).foldl (fun ρ (p:Oper×Nat)=>ext ρ p.1.dst (vs p.2)) ρ)=domX os (dom ρ)
 | [],n,ρ=>rfl
 | o :: os,n,ρ=>by
  rw [List.zipIdx_cons,List.foldl_cons,zEj vs os (n+1)];unfold domX;rw [List.foldl_cons];congr 1;cases o.dst<;>rfl
theorem zMd (init tail:List Oper) (pl:List Entry) (hin:ops=init++tail) (hm:P.follows .mixedOrders=true) (hok:zAO ops (ops.map fun _ _ _=>True) ρ [] N=true) (hbk:zBX ops=true)
 {fl:Option Nat} (hfl:∀ f,fl=some f→zJe ops init.length f=true) (htl:zEN ops init.length fl=true) (hoks:okOps N ops tail (domX init (dom ρ))=true) (hpl:zBS ops 0 init=some pl)
 (h:∀ K:List (Value→World→Prop)→Prop,(∀ Φs,(∀ w',Ext w0 w'→zBA Φs.reverse init ρ w' (fun ρ'=>zAH P r ops tail ρ' w' (fun ρ'' w''=>Q .normal ρ'' δ w'')))→K Φs)→dRunP P r [] ρ w0 init pl [] K):WPE P r N (.region id ops.toArray true) Q δ ρ w0:=fun a hf hd=>by
 have hback:=zEg hbk;have hrun:=zDf (P:=P) (r:=r) (S:=[]) (ρ:=ρ) (w0:=w0) (K:=fun Ψ=>∀ w',Ext w0 w'→zBA Ψ.reverse init ρ w' (fun ρ'=>zAH P r ops tail ρ' w' (fun ρ'' w''=>Q .normal ρ'' δ w''))) hback init pl 0 [] rfl hpl (h _ (fun Φs hΦ=>hΦ));simp only [List.reverse_reverse,List.reverse_nil] at hrun;obtain ⟨Ψs,hl,hK,hmo,hob⟩:=zFA init 0 [] rfl hrun;rw [List.nil_append] at hK;simp only [List.nil_append,Nat.zero_add] at hob;have hlen:ops.length=init.length+tail.length:=by rw [hin];simp
 have hgi:∀ i,i<init.length→ops[i]? = init[i]? := fun i hi=>by rw [hin,List.getElem?_append_left hi]
 have hok2:zAO ops (Ψs++List.replicate tail.length (fun _ _=>True)) ρ [] N=true:=by
  simp only [zAO,List.length_map,List.length_append,List.length_replicate,hl,hlen] at hok ⊢;exact hok
 have hmo2:Monos [] w0 (Ψs++List.replicate tail.length (fun _ _=>True)):=by
  have h0:∀ n,Monos [] w0 (List.replicate n (fun _ _=>True)):=fun n=>by
   induction n with
   | zero=>trivial
   | succ n ih=>exact ⟨fun _ _ _ _ _ h=>h,ih⟩
  have h1:∀ l:List (Value→World→Prop),Monos [] w0 l→Monos [] w0 (l++List.replicate tail.length (fun _ _=>True)):=fun l=>by
   induction l with
   | nil=>exact fun _=>h0 _
   | cons u l ih=>exact fun h=>⟨h.1,ih h.2⟩
  exact h1 Ψs hmo
 have hdrawn:ExtS [] w0 { w0 with drawn:=w0.drawn+1 }:=(Ext.drawn _).toS _;have hok':=hok;simp only [zAO,Bool.and_eq_true,decide_eq_true_eq] at hok';obtain ⟨⟨⟨⟨⟨hD,hlen0⟩,hnd⟩,_⟩,_⟩,hops⟩:=hok';have hndi:(init.filterMap (·.dst)).Nodup:=by
  rw [hin,List.filterMap_append] at hnd;exact (List.nodup_append.1 hnd).1
 refine wpIn_region_any hm ?_;refine zLU (n0:=init.length) (Q:=lift N Q) (δ:=δ) (K:=fun ρ'' w''=>Q .normal ρ'' δ w'') hok2 hback hfl htl (by omega) (zDF hmo2) (fun i o hi ho => ?_) ?_ ?_ _ (Array.replicate ops.toArray.size false) a _ rfl (fun j _=>getD_replicate_false' _ _) ?_ _ ?_
 · intro σ w hE hk _;have h1:=hob i o (by rw [← hgi i hi];exact ho) σ w hE.toExt (zCB (fun j v hw hp=>by
    have hji:=hback _ _ hw;have hjl:j<Ψs.length:=by omega
    unfold phi at hp ⊢;simpa [List.getD_eq_getElem?_getD,List.getElem?_take,hji,List.getElem?_append_left hjl] using hp) hk)
   have hphi:(Ψs.getD i fun _ _=>True)=phi (Ψs++List.replicate tail.length (fun _ _=>True)) i:=by
    have hil:i<Ψs.length:=by omega
    unfold phi;simp [List.getD_eq_getElem?_getD,List.getElem?_append_left hil]
   rw [hphi] at h1;cases hg:o.guard with
   | none=>rw [hg] at h1;simp only [Obl0,List.find?_nil] at h1 ⊢;exact h1
   | some gw=>obtain ⟨j,want⟩:=gw;rw [hg] at h1;simp only [Obl0,List.find?_nil] at h1 ⊢;exact h1
 · intro listed a' w' inv hall hun;rw [show ops.drop init.length=tail by rw [hin];simp];have hex:∀ (i:Nat),∃ v:Value,(∀ (Ψ:Value→World→Prop),Ψs[i]? = some Ψ→Ψ v w')∧∀ (o:Oper) (d:Nat),init[i]? = some o→o.dst=some d→a'.tmps.getD d undef=v:=fun i=>by
    cases ho:init[i]? with
    | none =>
     have:Ψs[i]? = none:=by rw [List.getElem?_eq_none_iff] at ho ⊢;omega
     exact ⟨undef,(fun Ψ h=>by rw [this] at h;cases h),(fun o d h=>by cases h)⟩
    | some o =>
     have hil:=(List.getElem?_eq_some_iff.1 ho).1;obtain ⟨v,hv,he⟩:=inv.vals i o (by rw [hgi i hil];exact ho) (hall i hil) rfl;refine ⟨v,fun Ψ h => ?_,fun o' d ho' hd => ?_⟩
     · have hil2:i<Ψs.length:=by omega
       have:phi (Ψs++List.replicate tail.length (fun _ _=>True)) i=Ψ:=by
        unfold phi;simp [List.getD_eq_getElem?_getD,List.getElem?_append_left hil2,h]
       rw [← this];exact hv
     · cases ho';exact he d hd
   obtain ⟨vs,hvs⟩:=Classical.axiomOfChoice hex;obtain ⟨ρ'',hk,he⟩:=zDj init Ψs ρ w' _ hl (hK w' inv.ext.toExt) vs (fun k Ψ h=>(hvs k).1 Ψ h);obtain ⟨l1,l2,l3⟩:=zCa vs init 0 ρ hndi;have hdm:dom ρ''=domX init (dom ρ):=by rw [he];exact zEj vs init 0 ρ
   have hlt:∀ t∈dom ρ'',t<N:=fun t ht=>by
    rw [he] at ht;rcases l1 t ht with h | ⟨k,o,hk,ho⟩
    · have:=List.all_eq_true.1 hD t h;simpa using this
    · have hkl:=(List.getElem?_eq_some_iff.1 hk).1;have:=List.all_eq_true.1 hops k (List.mem_range.2 (by omega));rw [hgi k hkl,hk] at this;simp only [Bool.and_eq_true,ho,decide_eq_true_eq] at this;exact this.1.1.1
   refine ⟨ρ'',?_,by rw [hdm];exact hoks,hlt,hk⟩;refine ⟨inv.tmps,fun t ht => ?_⟩;rw [he] at ht ⊢;by_cases hw:∃ (k:Nat) (o:Oper),init[k]? = some o∧o.dst=some t
   · obtain ⟨k,o,hk,ho⟩:=hw;rw [l2 k o t hk ho,Nat.zero_add];exact (hvs k).2 o t hk ho
   · have hno:∀ (k:Nat) (o:Oper),init[k]? = some o→o.dst≠some t:=fun k o hk ho=>hw ⟨k,o,hk,ho⟩;rw [l3 t hno];rcases l1 t ht with h | ⟨k,o,hk,ho⟩
     · refine inv.base t h (fun k o hk hlk => ?_);rcases Nat.lt_or_ge k init.length with h2 | h2
       · rw [hgi k h2] at hk;exact hno k o hk
       · rw [hun k h2] at hlk;cases hlk
     · exact absurd ho (hno k o hk)
 · intro a2 ρ2 w2 hf2 hd2 hq;exact ⟨ρ2,hf2,by rw [hd2];exact hq⟩
 · refine ⟨by simp,fun j i h => ?_,hdrawn,hd,hf.size,fun i o _ h => ?_,fun t ht _=>hf.at_ t ht,fun s hs=>by cases hs⟩
   · rw [getD_replicate_false'] at h;cases h
   · rw [getD_replicate_false'] at h;cases h
 · have:(List.range init.length).countP (fun j => !(Array.replicate ops.toArray.size false).getD j false)≤init.length:=Nat.le_trans List.countP_le_length (by simp);simp only [List.size_toArray] at this ⊢;omega
theorem zAN (n0:Nat) (pl:List Entry) (hm:P.follows .mixedOrders=true) (hok:zAO ops (ops.map fun _ _ _=>True) ρ [] N=true) (hbk:zBX ops=true)
 (htl:zGA ops (ops.take n0).length=true) (hoks:okOps N ops (ops.drop n0) (domX (ops.take n0) (dom ρ))=true) (hpl:zBS ops 0 (ops.take n0)=some pl)
 (h:∀ K:List (Value→World→Prop)→Prop,(∀ Φs,(∀ w',Ext w0 w'→zBA Φs.reverse (ops.take n0) ρ w' (fun ρ'=>zAH P r ops (ops.drop n0) ρ' w' (fun ρ'' w''=>Q .normal ρ'' δ w'')))→K Φs)→dRunP P r [] ρ w0 (ops.take n0) pl [] K):WPE P r N (.region id ops.toArray true) Q δ ρ w0 :=
 zMd (ops.take n0) (ops.drop n0) pl (List.take_append_drop n0 ops).symm hm hok hbk (fun f e=>by cases e) (tailF_none htl) hoks hpl h
theorem zKw (f n0:Nat) (pl:List Entry) (hm:P.follows .mixedOrders=true) (hok:zAO ops (ops.map fun _ _ _=>True) ρ [] N=true) (hbk:zBX ops=true)
 (hfo:zJe ops (ops.take n0).length f=true) (htl:zEN ops (ops.take n0).length (some f)=true) (hoks:okOps N ops (ops.drop n0) (domX (ops.take n0) (dom ρ))=true) (hpl:zBS ops 0 (ops.take n0)=some pl)
 (h:∀ K:List (Value→World→Prop)→Prop,(∀ Φs,(∀ w',Ext w0 w'→zBA Φs.reverse (ops.take n0) ρ w' (fun ρ'=>zAH P r ops (ops.drop n0) ρ' w' (fun ρ'' w''=>Q .normal ρ'' δ w'')))→K Φs)→dRunP P r [] ρ w0 (ops.take n0) pl [] K):WPE P r N (.region id ops.toArray true) Q δ ρ w0 :=
 zMd (ops.take n0) (ops.drop n0) pl (List.take_append_drop n0 ops).symm hm hok hbk (fun g e=>by cases e;exact hfo) htl hoks hpl h
end
variable {fl:List Nat}
def blkOf:Value→Option Nat
 | .slice (some a) _ _=>some a.block
 | .pointer (some a)=>some a.block
 | _=>none
def zNg (w w':World) (v:Value):Prop:=∀ b,blkOf v=some b→w.heap.size≤b∧b<w'.heap.size
abbrev Defs:=List (Nat×((Nat→Value)→Value))
def Xtra (fl:List Nat) (df:Defs) (i:Nat) (σ:Nat→Value) (w w':World) (v:Value):Prop:=(i∈fl→zNg w w' v)∧∀ g,(i,g)∈df→v=g σ
def zCV (fl:List Nat) (df:Defs) (i:Nat):Prop:=i∈fl∨i∈df.map (·.1)
instance (fl:List Nat) (df:Defs) (i:Nat):Decidable (zCV fl df i):=by unfold zCV;infer_instance
def dstOf (ops:List Oper) (i:Nat):Option Tmp:=(ops[i]?).bind (·.dst)
section
def dRunX (P:Program) (r:Option Nat) (ρ:Env) (w0:World) (fl:List Nat) (df:Defs):Nat→List Oper→List Entry→List (Value→World→Prop)→(List (Value→World→Prop)→Prop)→Prop
 | _,[],_,Φs,K=>K Φs
 | i,o :: os,e :: es,Φs,K=>∃ Φ:Value→World→Prop,(∀ v w w',ExtS [] w0 w→ExtS [] w w'→Φ v w→Φ v w') ∧
  (if zCV fl df i then e.2=none∧∀ (σ:Nat→Value) (w:World),Ext w0 w→KnowP Φs ρ w σ e.1→Runs P r o (lookσ σ) w (fun v w'=>Ext w w'∧Φ v w'∧Xtra fl df i σ w w' v) else OblP P r ρ w0 Φs o e Φ)∧dRunX P r ρ w0 fl df (i+1) os es (Φ :: Φs) K
 | _,_ :: _,[],_,_=>False
theorem zIj {S:List Nat} {K K':List (Value→World→Prop)→Prop} (h:∀ Ψ,K Ψ→K' Ψ):∀ (os:List Oper) (es:List Entry) (Φs:List (Value→World→Prop)),dRunP P r S ρ w0 os es Φs K→dRunP P r S ρ w0 os es Φs K'
 | [],_,_,hk=>h _ hk
 | _ :: os,_ :: es,Φs,⟨Φ,h1,h2,h3⟩=>⟨Φ,h1,h2,zIj h os es _ h3⟩
 | _ :: _,[],_,hk=>hk.elim
def FreshAll (P:Program) (r:Option Nat) (ρ:Env) (w0:World) (fl:List Nat) (df:Defs) (i:Nat) (os:List Oper) (es:List Entry) (Ψ:List (Value→World→Prop)):Prop :=
 ∀ k o e,os[k]? = some o→es[k]? = some e→zCV fl df (i+k)→e.2=none∧∀ (σ:Nat→Value) (w:World),Ext w0 w→KnowP (Ψ.drop (os.length-k)) ρ w σ e.1 →
  Runs P r o (lookσ σ) w (fun v w'=>Ext w w'∧(Ψ.getD (os.length-1-k) fun _ _=>True) v w'∧Xtra fl df (i+k) σ w w' v)
theorem zLA {fl:List Nat} {df:Defs} {K:List (Value→World→Prop)→Prop}:∀ (os:List Oper) (es:List Entry) (i:Nat) (Φs:List (Value→World→Prop)),dRunX P r ρ w0 fl df i os es Φs K →
 dRunP P r [] ρ w0 os es Φs (fun Ψ=>K Ψ∧(∃ Θ,Ψ=Θ++Φs∧Θ.length=os.length)∧FreshAll P r ρ w0 fl df i os es Ψ)
 | [],es,i,Φs,h=>⟨h,⟨[],rfl,rfl⟩,fun k o e ho=>by simp at ho⟩
 | o :: os,[],i,Φs,h=>h.elim
 | o :: os,e :: es,i,Φs,⟨Φ,hs,hob,h⟩=>by
  refine ⟨Φ,hs,?_,zIj ?_ os es _ (zLA os es (i+1) (Φ :: Φs) h)⟩
  · split at hob
    · intro σ w hE hk;rw [hob.1];exact (hob.2 σ w hE hk).mono fun v w' hv=>⟨hv.1,hv.2.1⟩
    · exact hob
  · rintro Ψ ⟨h1,⟨Θ,rfl,hl⟩,h3⟩;refine ⟨h1,⟨Θ++[Φ],by simp,by simp [hl]⟩,fun k o' e' ho he hk => ?_⟩;cases k with
    | zero =>
     simp at ho he;subst ho;subst he;rw [Nat.add_zero] at hk;rw [if_pos hk] at hob;refine ⟨hob.1,fun σ w hE hkn => ?_⟩;have e1:(Θ++Φ :: Φs).drop ((o :: os).length-0)=Φs:=by
      rw [show (o :: os).length-0=Θ.length+1 from by simp [hl],List.drop_append];simp
     have e2:(Θ++Φ :: Φs).getD ((o :: os).length-1-0) (fun _ _=>True)=Φ:=by
      rw [show (o :: os).length-1-0=Θ.length from by simp [hl]];simp
     rw [e1] at hkn;rw [e2];exact hob.2 σ w hE hkn
    | succ k =>
     have:=h3 k o' e' (by simpa using ho) (by simpa using he) (by rw [show i+1+k=i+(k+1) from by omega];exact hk);rw [show i+1+k=i+(k+1) from by omega] at this;rw [show (o :: os).length-(k+1)=os.length-k from by simp,show (o :: os).length-1-(k+1)=os.length-1-k from by simp;omega];exact this
def Sep (ops:List Oper) (fl:List Nat) (df:Defs) (listed:Array Bool) (a:Act) (w:World):Prop :=
 (∀ i∈fl,listed.getD i false=true→∀ d,dstOf ops i=some d→∀ b,blkOf (a.tmps.getD d undef)=some b→b<w.heap.size) ∧
 (∀ i∈fl,∀ j∈fl,i≠j→listed.getD i false=true→listed.getD j false=true→∀ d e,dstOf ops i=some d→dstOf ops j=some e→∀ b,blkOf (a.tmps.getD d undef)=some b→blkOf (a.tmps.getD e undef)≠some b) ∧
 (∀ i g,(i,g)∈df→listed.getD i false=true→∀ d,dstOf ops i=some d→a.tmps.getD d undef=g fun t=>a.tmps.getD t undef)
def zCe (ops:List Oper) (df:Defs):Prop:=∀ i g,(i,g)∈df→∀ o,ops[i]? = some o→(∀ t∈seesL ops o,∃ j,zCX ops t=some j∧waits ops i j=true)∧∀ σ σ':Nat→Value,(∀ t∈seesL ops o,σ t=σ' t)→g σ=g σ'
theorem zMM {df:Defs} (hdf:zCe ops df) (hok:zAO ops Φs ρ [] N=true) (hΦ:∀ i,∀ v w w',ExtS [] w0 w→ExtS [] w w'→phi Φs i v w→phi Φs i v w')
 {a:Act} (inv:Inv (ops:=ops) (Φs:=Φs) (ρ:=ρ) (w0:=w0) (ss:=[]) N δ listed a w) (sep:Sep ops fl df listed a w)
 (hob:∀ o,ops[k]? = some o→Obl1 P r ops Φs ρ w0 [] k o)
 (hfr:zCV fl df k→∀ o,ops[k]? = some o→o.guard=none∧∀ σ w,ExtS [] w0 w→KnowL ops Φs ρ w k σ (seesL ops o)→Runs P r o (lookσ σ) w (fun v w'=>Ext w w'∧phi Φs k v w'∧Xtra fl df k σ w w' v))
 (hi:k∈Region.ready .any ops.toArray listed) {Q:Exit→Act→World→Prop} {K:Act→World→Prop}
 (hK:∀ a' w',Inv (ops:=ops) (Φs:=Φs) (ρ:=ρ) (w0:=w0) (ss:=[]) N δ (listed.setIfInBounds k true) a' w'→Sep ops fl df (listed.setIfInBounds k true) a' w'→K a' w') :
 wpOpIn (W r) 0 P ops.toArray Q k K a w:=by
 obtain ⟨g1,g2,g3⟩:=zCS hi;have hlt:k<listed.size:=by rw [inv.size];exact g2
 have hunf:listed.getD k false=false:=by simp [hlt] at g1 ⊢;exact g1
 -- the facts for this one step: values stand still, new blocks are new
 let frz:Nat→Value→World→Prop:=fun m v u=>phi Φs m v u∧(listed.getD m false=true→∀ d,dstOf ops m=some d→v=a.tmps.getD d undef)∧(m=k→k∈fl→∀ b,blkOf v=some b→w.heap.size≤b∧b<u.heap.size)∧(m=k→∀ g,(k,g)∈df→v=g fun t=>a.tmps.getD t undef)
 let Ψs:List (Value→World→Prop):=(List.range ops.length).map frz
 have hΨl:Ψs.length=ops.length:=by simp [Ψs]
 have hΨ:∀ m,m<ops.length→phi Ψs m=frz m:=fun m hm=>by
  unfold phi;simp [Ψs,List.getD_eq_getElem?_getD,hm]
 have hΨo:∀ m,¬ m<ops.length→∀ v u,phi Ψs m v u:=fun m hm v u=>by
  unfold phi;simp [Ψs,List.getD_eq_getElem?_getD,hm]
 have hok2:zAO ops Ψs ρ [] N=true:=by
  simp only [zAO,hΨl] at hok ⊢;simp only [Bool.and_eq_true] at hok ⊢;exact ⟨⟨⟨⟨⟨hok.1.1.1.1.1,by simp⟩,hok.1.1.1.2⟩,hok.1.1.2⟩,hok.1.2⟩,hok.2⟩
 have hmono:∀ i,∀ v u u',ExtS [] w u→ExtS [] u u'→phi Ψs i v u→phi Ψs i v u':=fun i v u u' h1 h2 hp=>by
  by_cases hm:i<ops.length
  · rw [hΨ i hm] at hp ⊢;exact ⟨hΦ i v u u' (inv.ext.trans h1) h2 hp.1,hp.2.1,(fun e1 e2 b hb=>⟨(hp.2.2.1 e1 e2 b hb).1,Nat.lt_of_lt_of_le (hp.2.2.1 e1 e2 b hb).2 h2.size⟩),hp.2.2.2⟩
  · exact hΨo i hm v u'
 have inv2:Inv (ops:=ops) (Φs:=Ψs) (ρ:=ρ) (w0:=w) (ss:=[]) N δ listed a w:=by
  refine ⟨inv.size,inv.closed,ExtS.refl _ _,inv.defers,inv.tmps,fun i o ho hl hf => ?_,inv.base,fun s hs=>by cases hs⟩;obtain ⟨v,hv,he⟩:=inv.vals i o ho hl hf;have hil:=(List.getElem?_eq_some_iff.1 ho).1;refine ⟨v,?_,he⟩;rw [hΨ i hil];refine ⟨hv,fun _ d hd => ?_,fun e _ => ?_,fun e => ?_⟩
  · rw [he d (by unfold dstOf at hd;rw [ho] at hd;exact hd)]
  · subst e;rw [hunf] at hl;cases hl
  · subst e;rw [hunf] at hl;cases hl
 have hob2:∀ o,ops[k]? = some o→Obl1 P r ops Ψs ρ w [] k o:=fun o ho σ u hE hkn _=>by
  have hkn2:KnowL ops Φs ρ u k σ (seesL ops o):=zCB (fun j v hw hp=>by
   by_cases hm:j<ops.length
   · rw [hΨ j hm] at hp;exact hp.1
   · have:Φs.length=ops.length:=by
      simp only [zAO,Bool.and_eq_true,decide_eq_true_eq] at hok;exact hok.1.1.1.1.2
     unfold phi;rw [List.getD_eq_getElem?_getD,List.getElem?_eq_none (by omega)]
     trivial) hkn
  have h1:=hob o ho σ u (inv.ext.trans hE) hkn2 trivial;by_cases hfl:zCV fl df k
  · obtain ⟨e1,e2⟩:=hfr hfl o ho;rw [e1];have h2:=e2 σ u (inv.ext.trans hE) hkn2;refine h2.mono fun v u' hv=>⟨hv.1,?_⟩;rw [hΨ k g2];refine ⟨hv.2.1,fun hl => ?_,fun _ hkf b hb => ?_,fun _ g hg => ?_⟩
    · rw [hunf] at hl;cases hl
    · have:=hv.2.2.1 hkf b hb;exact ⟨Nat.le_trans hE.size this.1,this.2⟩
    · obtain ⟨c1,c2⟩:=hdf k g hg o ho;rw [hv.2.2.2 g hg];refine c2 _ _ fun t ht => ?_;obtain ⟨j,hwj,hwt⟩:=c1 t ht;have hkt:=zFw hkn t ht;unfold KnowT at hkt;rw [hwj] at hkt;simp only [hwt,if_true] at hkt;obtain ⟨oj,hoj,hdj⟩:=zBb hwj;rw [hΨ j (List.getElem?_eq_some_iff.1 hoj).1] at hkt;exact hkt.2.1 (g3 j hwt) t (by unfold dstOf;rw [hoj];exact hdj)
  · have conv:∀ v u',phi Φs k v u'→phi Ψs k v u':=fun v u' hp=>by
     rw [hΨ k g2];refine ⟨hp,fun hl => ?_,fun _ h=>absurd (.inl h) hfl,fun _ g hg=>absurd (.inr (List.mem_map.2 ⟨_,hg,rfl⟩)) hfl⟩;rw [hunf] at hl;cases hl
    cases hg:o.guard with
    | none =>
     rw [hg] at h1;exact h1.mono fun v u' hv=>⟨hv.1,conv v u' hv.2⟩
    | some gw =>
     obtain ⟨j,want⟩:=gw;rw [hg] at h1;simp only at h1 ⊢;cases hj:(ops[j]?).bind (·.dst) with
     | none=>rw [hj] at h1;exact h1
     | some t =>
      rw [hj] at h1;exact ⟨fun h=>(h1.1 h).mono fun v u' hv=>⟨hv.1,conv v u' hv.2⟩,fun h=>conv _ _ (h1.2 h)⟩
 refine zIT hok2 hmono (fun s hs=>by cases hs) (fun s hs=>by cases hs) (by simp) inv2 hob2 hi fun a' w' inv' => ?_;have hset:(listed.setIfInBounds k true).getD k false=true:=by simp [hlt]
 -- what the values are now
 have hval:∀ m o,ops[m]? = some o→(listed.setIfInBounds k true).getD m false=true→frz m (match o.dst with | some d=>a'.tmps.getD d undef | none=>undef) w'∨o.dst=none:=fun m o hm hl=>by
  obtain ⟨v,hv,he⟩:=inv'.vals m o hm hl rfl;rw [hΨ m (List.getElem?_eq_some_iff.1 hm).1] at hv;cases hd:o.dst with
  | none=>exact .inr rfl
  | some d =>
   left;show frz m (a'.tmps.getD d undef) w';rw [he d hd];exact hv
 have hdst:∀ m d,dstOf ops m=some d→∃ o,ops[m]? = some o∧o.dst=some d:=fun m d h=>by
  unfold dstOf at h;cases hm:ops[m]? with
  | none=>rw [hm] at h;cases h
  | some o=>rw [hm] at h;exact ⟨o,rfl,h⟩
 have hfz:∀ m d,dstOf ops m=some d→(listed.setIfInBounds k true).getD m false=true→frz m (a'.tmps.getD d undef) w':=fun m d hd hl=>by
  obtain ⟨o,ho,hod⟩:=hdst m d hd;rcases hval m o ho hl with h | h
  · rw [hod] at h;exact h
  · rw [hod] at h;cases h
 have hold:∀ m,m≠k→(listed.setIfInBounds k true).getD m false=true→listed.getD m false=true:=fun m hm hl=>by rwa [getD_set_ne false (Ne.symm hm)] at hl
 have hE':ExtS [] w w':=inv'.ext;refine hK a' w' ⟨inv'.size,inv'.closed,inv.ext.trans inv'.ext,inv'.defers,inv'.tmps,fun i o ho hl hf => ?_,inv'.base,fun s hs=>by cases hs⟩ ⟨fun i hi hl d hd b hb => ?_,fun i hi j hj hij hl hl2 d e hd he b hb hb2 => ?_,fun i g hig hl d hd => ?_⟩
 · obtain ⟨v,hv,he⟩:=inv'.vals i o ho hl hf;rw [hΨ i (List.getElem?_eq_some_iff.1 ho).1] at hv;exact ⟨v,hv.1,he⟩
 · have hz:=hfz i d hd hl;by_cases hik:i=k
   · exact (hz.2.2.1 hik (hik ▸ hi) b hb).2
   · have ho:=hold i hik hl;rw [hz.2.1 ho d hd] at hb;exact Nat.lt_of_lt_of_le (sep.1 i hi ho d hd b hb) hE'.size
 · have hz:=hfz i d hd hl;have hz2:=hfz j e he hl2;by_cases hik:i=k
   · have hjk:j≠k:=fun h=>hij (hik.trans h.symm);have ho:=hold j hjk hl2;rw [hz2.2.1 ho e he] at hb2;have h1:=sep.1 j hj ho e he b hb2;have h2:=(hz.2.2.1 hik (hik ▸ hi) b hb).1;omega
   · have ho:=hold i hik hl;rw [hz.2.1 ho d hd] at hb;by_cases hjk:j=k
     · have h1:=sep.1 i hi ho d hd b hb;have h2:=(hz2.2.2.1 hjk (hjk ▸ hj) b hb2).1;omega
     · have ho2:=hold j hjk hl2;rw [hz2.2.1 ho2 e he] at hb2;exact sep.2.1 i hi j hj hij ho ho2 d e hd he b hb hb2
 · have hz:=hfz i d hd hl;obtain ⟨o,ho,hod⟩:=hdst i d hd;obtain ⟨c1,c2⟩:=hdf i g hig o ho;have same:∀ t∈seesL ops o,a'.tmps.getD t undef=a.tmps.getD t undef:=fun t ht=>by
    obtain ⟨j,hwj,hwt⟩:=c1 t ht;obtain ⟨oj,hoj,hdj⟩:=zBb hwj;have hjl:listed.getD j false=true:=by
     by_cases hik:i=k
     · subst hik;exact g3 j hwt
     · exact inv.closed i j (hold i hik hl) hwt
    have hdo:dstOf ops j=some t:=by unfold dstOf;rw [hoj];exact hdj
    exact (hfz j t hdo (getD_set_true hjl)).2.1 hjl t hdo
   rw [c2 _ _ same];by_cases hik:i=k
   · subst hik;exact hz.2.2.2 rfl g hig
   · rw [hz.2.1 (hold i hik hl) d hd];exact sep.2.2 i g hig (hold i hik hl) d hd
theorem zKG {n0:Nat} {fl:List Nat} {df:Defs} (hdf:zCe ops df) (hok:zAO ops Φs ρ [] N=true) (hback:∀ j i,waits ops j i=true→i<j) (htl:zGA ops n0=true) (hn0:n0≤ops.length)
 (hΦ:∀ i,∀ v w w',ExtS [] w0 w→ExtS [] w w'→phi Φs i v w→phi Φs i v w')
 (hob:∀ i o,i<n0→ops[i]? = some o→Obl1 P r ops Φs ρ w0 [] i o)
 (hfr:∀ k,k<n0→zCV fl df k→∀ o,ops[k]? = some o→o.guard=none∧∀ σ w,ExtS [] w0 w→KnowL ops Φs ρ w k σ (seesL ops o)→Runs P r o (lookσ σ) w (fun v w'=>Ext w w'∧phi Φs k v w'∧Xtra fl df k σ w w' v))
 {Q:Exit→Act→World→Prop}
 (hfin:∀ fuel listed a w,Inv (ops:=ops) (Φs:=Φs) (ρ:=ρ) (w0:=w0) (ss:=[]) N δ listed a w→Sep ops fl df listed a w→(∀ j,j<n0→listed.getD j false=true)→(∀ j,n0≤j→listed.getD j false=false)→ops.length-n0≤fuel→wpAnyIn (W r) 0 P .any ops.toArray Q fuel listed a w) :
 ∀ (m:Nat) (listed:Array Bool) (a:Act) (w:World),(List.range n0).countP (fun j => !listed.getD j false)=m→(∀ j,n0≤j→listed.getD j false=false)→Inv (ops:=ops) (Φs:=Φs) (ρ:=ρ) (w0:=w0) (ss:=[]) N δ listed a w→Sep ops fl df listed a w→∀ fuel,m+(ops.length-n0)≤fuel→wpAnyIn (W r) 0 P .any ops.toArray Q fuel listed a w
 | 0,listed,a,w,hc,hu,inv,sep,fuel,hfu=>by
  refine hfin fuel listed a w inv sep (fun j hj => ?_) hu (by omega);rw [List.countP_eq_zero] at hc;have:=hc j (List.mem_range.2 hj);simpa using this
 | m+1,listed,a,w,hc,hu,inv,sep,0,hfu=>by omega
 | m+1,listed,a,w,hc,hu,inv,sep,fuel+1,hfu=>by
  obtain ⟨x,hx1,hx2⟩:∃ x,x<n0∧listed.getD x false=false:=by
   have:0<(List.range n0).countP (fun j => !listed.getD j false):=by omega
   obtain ⟨x,h1,h2⟩:=List.countP_pos_iff.1 this;exact ⟨x,List.mem_range.1 h1,by simpa using h2⟩
  refine ⟨fun h => ?_,fun i hi => ?_⟩
  · have:=zEz inv.size hback h x (by omega);rw [hx2] at this;cases this
  · obtain ⟨g1,g2,g3⟩:=zCS hi;have hin:i<n0:=by
     rcases Nat.lt_or_ge i n0 with h | h
     · exact h
     · have:listed.getD x false=true:=by
        rcases zNW htl h g2 (show x<i by omega) with e | ⟨-,k,e1,e2⟩
        · exact g3 x e
        · exact inv.closed k x (g3 k e1) e2
       rw [hx2] at this;cases this
    have hlt:i<listed.size:=by rw [inv.size];exact g2
    have hunf:listed.getD i false=false:=by simp [hlt] at g1 ⊢;exact g1
    refine zMM hdf hok hΦ inv sep (fun o ho=>hob i o hin ho) (fun hf o ho=>hfr i hin hf o ho) hi fun a' w' inv' sep'=>zKG hdf hok hback htl hn0 hΦ hob hfr hfin m _ a' w' ?_ (fun j hj=>by rw [getD_set_ne false (by omega)];exact hu j hj) inv' sep' fuel (by omega);have key:∀ (l:List Nat),l.Nodup→(i∈l→l.countP (fun j => !(listed.setIfInBounds i true).getD j false)+1=l.countP (fun j => !listed.getD j false))∧(i ∉ l→l.countP (fun j => !(listed.setIfInBounds i true).getD j false)=l.countP (fun j => !listed.getD j false)):=by
     intro l
     induction l with
     | nil=>exact fun _=>⟨fun h=>absurd h (by simp),fun _=>rfl⟩
     | cons y l ih =>
      intro hnd;rw [List.nodup_cons] at hnd;obtain ⟨i1,i2⟩:=ih hnd.2;refine ⟨fun hm => ?_,fun hm => ?_⟩
      · by_cases hy:i=y
        · subst hy;have h1:(listed.setIfInBounds i true).getD i false=true:=by simp [hlt]
          rw [List.countP_cons,List.countP_cons,h1,hunf,i2 hnd.1];simp
        · have hm':i∈l:=by
           rcases List.mem_cons.1 hm with h | h
           · exact absurd h hy
           · exact h
          rw [List.countP_cons,List.countP_cons,getD_set_ne false hy];have:=i1 hm';omega
      · have hy:i≠y:=fun e=>hm (by simp [e]);rw [List.countP_cons,List.countP_cons,getD_set_ne false hy,i2 (fun h=>hm (by simp [h]))]
    have:=(key _ List.nodup_range).1 (List.mem_range.2 hin);omega
def SepE (ops:List Oper) (fl:List Nat) (df:Defs) (ρ:Env):Prop :=
 (∀ i∈fl,∀ j∈fl,i≠j→∀ d e,dstOf ops i=some d→dstOf ops j=some e→∀ b,blkOf (look1 ρ d)=some b→blkOf (look1 ρ e)≠some b) ∧
 (∀ i g,(i,g)∈df→∀ d,dstOf ops i=some d→look1 ρ d=g (look1 ρ))
theorem wpe_tailX (fl:List Nat) (df:Defs) (init tail:List Oper) (pl:List Entry) (hin:ops=init++tail) (hm:P.follows .mixedOrders=true) (hok:zAO ops (ops.map fun _ _ _=>True) ρ [] N=true) (hbk:zBX ops=true)
 (htl:zGA ops init.length=true) (hoks:okOps N ops tail (domX init (dom ρ))=true) (hpl:zBS ops 0 init=some pl) (hfl:∀ i,zCV fl df i→i<init.length) (hdf:zCe ops df)
 (h:∀ K:List (Value→World→Prop)→Prop,(∀ Φs,(∀ w',Ext w0 w'→zBA Φs.reverse init ρ w' (fun ρ'=>SepE ops fl df ρ'→zAH P r ops tail ρ' w' (fun ρ'' w''=>Q .normal ρ'' δ w'')))→K Φs)→dRunX P r ρ w0 fl df 0 init pl [] K):WPE P r N (.region id ops.toArray true) Q δ ρ w0:=fun a hf hd=>by
 have hback:=zEg hbk;have hX:=zLA init pl 0 [] (h (fun Φs=>∀ w',Ext w0 w'→zBA Φs.reverse init ρ w' (fun ρ'=>SepE ops fl df ρ'→zAH P r ops tail ρ' w' (fun ρ'' w''=>Q .normal ρ'' δ w''))) (fun Φs hΦ=>hΦ));have hrun:=zDf (P:=P) (r:=r) (S:=[]) (ρ:=ρ) (w0:=w0) hback init pl 0 [] rfl hpl hX;simp only [List.reverse_nil] at hrun;obtain ⟨Ψs,hl,hK,hmo,hob⟩:=zFA init 0 [] rfl hrun;rw [List.nil_append] at hK;obtain ⟨hK,-,hfa⟩:=hK;rw [List.reverse_reverse] at hK;simp only [List.nil_append,Nat.zero_add] at hob;have hlen:ops.length=init.length+tail.length:=by rw [hin];simp
 have hgi:∀ i,i<init.length→ops[i]? = init[i]? := fun i hi=>by rw [hin,List.getElem?_append_left hi]
 have hok2:zAO ops (Ψs++List.replicate tail.length (fun _ _=>True)) ρ [] N=true:=by
  simp only [zAO,List.length_map,List.length_append,List.length_replicate,hl,hlen] at hok ⊢;exact hok
 have hmo2:Monos [] w0 (Ψs++List.replicate tail.length (fun _ _=>True)):=by
  have h0:∀ n,Monos [] w0 (List.replicate n (fun _ _=>True)):=fun n=>by
   induction n with
   | zero=>trivial
   | succ n ih=>exact ⟨fun _ _ _ _ _ h=>h,ih⟩
  have h1:∀ l:List (Value→World→Prop),Monos [] w0 l→Monos [] w0 (l++List.replicate tail.length (fun _ _=>True)):=fun l=>by
   induction l with
   | nil=>exact fun _=>h0 _
   | cons u l ih=>exact fun h=>⟨h.1,ih h.2⟩
  exact h1 Ψs hmo
 have hdrawn:ExtS [] w0 { w0 with drawn:=w0.drawn+1 }:=(Ext.drawn _).toS _;have hok':=hok;simp only [zAO,Bool.and_eq_true,decide_eq_true_eq] at hok';obtain ⟨⟨⟨⟨⟨hD,hlen0⟩,hnd⟩,_⟩,_⟩,hops⟩:=hok';have hndi:(init.filterMap (·.dst)).Nodup:=by
  rw [hin,List.filterMap_append] at hnd;exact (List.nodup_append.1 hnd).1
 have hphi:∀ i,i<init.length→(Ψs.getD i fun _ _=>True)=phi (Ψs++List.replicate tail.length (fun _ _=>True)) i:=fun i hi=>by
  have hil:i<Ψs.length:=by omega
  unfold phi;simp [List.getD_eq_getElem?_getD,List.getElem?_append_left hil]
 have himp:∀ i,i<init.length→∀ {σ:Nat→Value} {w:World} {ts:List Nat},KnowL ops (Ψs++List.replicate tail.length (fun _ _=>True)) ρ w i σ ts→KnowL ops (Ψs.take i) ρ w i σ ts:=fun i hi σ w ts hk=>zCB (fun j v hw hp=>by
  have hji:=hback _ _ hw;have hjl:j<Ψs.length:=by omega
  unfold phi at hp ⊢;simpa [List.getD_eq_getElem?_getD,List.getElem?_take,hji,List.getElem?_append_left hjl] using hp) hk
 refine wpIn_region_any hm ?_;refine zKG (n0:=init.length) (fl:=fl) (df:=df) (Q:=lift N Q) (δ:=δ) hdf hok2 hback htl (by omega) (zDF hmo2) (fun i o hi ho => ?_) (fun k hk hkf o ho => ?_) ?_ _ (Array.replicate ops.toArray.size false) a _ rfl (fun j _=>getD_replicate_false' _ _) ?_ ?_ _ ?_
 · intro σ w hE hk _;have h1:=hob i o (by rw [← hgi i hi];exact ho) σ w hE.toExt (himp i hi hk);rw [hphi i hi] at h1;cases hg:o.guard with
   | none=>rw [hg] at h1;simp only [Obl0,List.find?_nil] at h1 ⊢;exact h1
   | some gw=>obtain ⟨j,want⟩:=gw;rw [hg] at h1;simp only [Obl0,List.find?_nil] at h1 ⊢;exact h1
 · have ho2:init[k]? = some o:=by rw [← hgi k hk];exact ho
   have hpll:pl.length=init.length:=by
    have h0:∀ (os:List Oper) (es:List Entry) (i:Nat),zBS ops i os=some es→es.length=os.length:=fun os=>by
     induction os with
     | nil=>intro es i h;cases h;rfl
     | cons o os ih =>
      intro es i h;unfold zBS at h;cases h1:zCI ops i o with
      | none=>rw [h1] at h;simp at h
      | some e =>
       cases h2:zBS ops (i+1) os with
       | none=>rw [h1,h2] at h;simp at h
       | some es'=>rw [h1,h2] at h;simp at h;subst h;simp [ih es' (i+1) h2]
    exact h0 init pl 0 hpl
   obtain ⟨e,he⟩:∃ e,pl[k]? = some e:=⟨pl[k],List.getElem?_eq_getElem (by omega)⟩;have hent:=zBt init pl 0 hpl k o e ho2 he;rw [Nat.zero_add] at hent;obtain ⟨f1,f2⟩:=hfa k o e ho2 he (by rw [Nat.zero_add];exact hkf);rw [Nat.zero_add] at f2;have hgn:o.guard=none∧e=(sight ops k (seesL ops o),none):=by
    unfold zCI at hent;cases hg:o.guard with
    | none=>rw [hg] at hent;exact ⟨rfl,(Option.some.inj hent).symm⟩
    | some gw =>
     obtain ⟨j,want⟩:=gw;rw [hg] at hent;simp only at hent;cases hj:(ops[j]?).bind (·.dst) with
     | none=>rw [hj] at hent;cases hent
     | some t=>rw [hj] at hent;have:=Option.some.inj hent;rw [← this] at f1;cases f1
   refine ⟨hgn.1,fun σ w hE hkn => ?_⟩;have h1:=himp k hk hkn;have e1:Ψs.reverse.drop (init.length-k)=(Ψs.take k).reverse:=by
    rw [List.drop_reverse,hl,show init.length-(init.length-k)=k from by omega]
   have e2:Ψs.reverse.getD (init.length-1-k) (fun _ _=>True)=Ψs.getD k (fun _ _=>True):=by
    rw [List.getD_eq_getElem?_getD,List.getD_eq_getElem?_getD,List.getElem?_reverse (by omega),hl];congr 2;omega
   have h2:=f2 σ w hE.toExt (by
    rw [e1,hgn.2];exact zDU (Φs:=(Ψs.take k).reverse) (by simp;omega) (by rw [List.reverse_reverse];exact h1) (fun j hj=>hback k j hj))
   rw [e2,hphi k hk] at h2;exact h2
 · intro fuel listed a' w' inv sep hall hun hfu;have hex:∀ (i:Nat),∃ v:Value,(∀ (Ψ:Value→World→Prop),Ψs[i]? = some Ψ→Ψ v w')∧∀ (o:Oper) (d:Nat),init[i]? = some o→o.dst=some d→a'.tmps.getD d undef=v:=fun i=>by
    cases ho:init[i]? with
    | none =>
     have:Ψs[i]? = none:=by rw [List.getElem?_eq_none_iff] at ho ⊢;omega
     exact ⟨undef,(fun Ψ h=>by rw [this] at h;cases h),(fun o d h=>by cases h)⟩
    | some o =>
     have hil:=(List.getElem?_eq_some_iff.1 ho).1;obtain ⟨v,hv,he⟩:=inv.vals i o (by rw [hgi i hil];exact ho) (hall i hil) rfl;refine ⟨v,fun Ψ h => ?_,fun o' d ho' hd => ?_⟩
     · have hil2:i<Ψs.length:=by omega
       have:phi (Ψs++List.replicate tail.length (fun _ _=>True)) i=Ψ:=by
        unfold phi;simp [List.getD_eq_getElem?_getD,List.getElem?_append_left hil2,h]
       rw [← this];exact hv
     · cases ho';exact he d hd
   obtain ⟨vs,hvs⟩:=Classical.axiomOfChoice hex;obtain ⟨ρ'',hk,he⟩:=zDj init Ψs ρ w' _ hl (hK w' inv.ext.toExt) vs (fun k Ψ h=>(hvs k).1 Ψ h);obtain ⟨l1,l2,l3⟩:=zCa vs init 0 ρ hndi;have hdm:dom ρ''=domX init (dom ρ):=by rw [he];exact zEj vs init 0 ρ
   have hlt:∀ t∈dom ρ'',t<N:=fun t ht=>by
    rw [he] at ht;rcases l1 t ht with h | ⟨k,o,hk,ho⟩
    · have:=List.all_eq_true.1 hD t h;simpa using this
    · have hkl:=(List.getElem?_eq_some_iff.1 hk).1;have:=List.all_eq_true.1 hops k (List.mem_range.2 (by omega));rw [hgi k hkl,hk] at this;simp only [Bool.and_eq_true,ho,decide_eq_true_eq] at this;exact this.1.1.1
   have hsl:∀ k d,k<init.length→dstOf ops k=some d→look1 ρ'' d=a'.tmps.getD d undef:=fun k d hk hd=>by
    unfold dstOf at hd;rw [hgi k hk] at hd;cases ho:init[k]? with
    | none=>rw [ho] at hd;cases hd
    | some o =>
     rw [ho] at hd;rw [he,l2 k o d ho hd,Nat.zero_add];exact ((hvs k).2 o d ho hd).symm
   have hk:=hk ⟨fun i hi j hj hij d e hd hdj b hb=>by
    have hi':=hfl i (.inl hi);have hj':=hfl j (.inl hj);rw [hsl i d hi' hd] at hb;rw [hsl j e hj' hdj];exact sep.2.1 i hi j hj hij (hall i hi') (hall j hj') d e hd hdj b hb,fun i g hig d hd=>by
    have hi':=hfl i (.inr (List.mem_map.2 ⟨_,hig,rfl⟩));rw [hsl i d hi' hd,sep.2.2 i g hig (hall i hi') d hd];obtain ⟨o,ho⟩:∃ o,ops[i]? = some o:=⟨ops[i],List.getElem?_eq_getElem (by omega)⟩;obtain ⟨c1,c2⟩:=hdf i g hig o ho;refine c2 _ _ fun t ht => ?_;obtain ⟨j,hwj,hwt⟩:=c1 t ht;obtain ⟨oj,hoj,hdj⟩:=zBb hwj;have:=hback i j hwt;exact (hsl j t (by omega) (by unfold dstOf;rw [hoj];exact hdj)).symm⟩
   refine tail_run' (n0:=init.length) (fun j i hj hl hi hn=>tail_of htl hj hl hi hn) hback tail init.length fuel listed ρ'' a' w' _ (by rw [hin];simp) (Nat.le_refl _) inv.size hall hun (by omega) (by rw [hdm];exact hoks) hlt ?_ hk ?_
   · refine ⟨inv.tmps,fun t ht => ?_⟩;rw [he] at ht ⊢;by_cases hw:∃ (k:Nat) (o:Oper),init[k]? = some o∧o.dst=some t
     · obtain ⟨k,o,hk,ho⟩:=hw;rw [l2 k o t hk ho,Nat.zero_add];exact (hvs k).2 o t hk ho
     · have hno:∀ (k:Nat) (o:Oper),init[k]? = some o→o.dst≠some t:=fun k o hk ho=>hw ⟨k,o,hk,ho⟩;rw [l3 t hno];rcases l1 t ht with h | ⟨k,o,hk,ho⟩
       · refine inv.base t h (fun k o hk hlk => ?_);rcases Nat.lt_or_ge k init.length with h2 | h2
         · rw [hgi k h2] at hk;exact hno k o hk
         · rw [hun k h2] at hlk;cases hlk
       · exact absurd ho (hno k o hk)
   · intro a2 ρ2 w2 hf2 hd2 hq;exact ⟨ρ2,hf2,by rw [hd2,inv.defers];exact hq⟩
 · refine ⟨by simp,fun j i h => ?_,hdrawn,hd,hf.size,fun i o _ h => ?_,fun t ht _=>hf.at_ t ht,fun s hs=>by cases hs⟩
   · rw [getD_replicate_false'] at h;cases h
   · rw [getD_replicate_false'] at h;cases h
 · refine ⟨fun i _ h => ?_,fun i _ j _ _ h => ?_,fun i g _ h => ?_⟩
   · rw [getD_replicate_false'] at h;cases h
   · rw [getD_replicate_false'] at h;cases h
   · rw [getD_replicate_false'] at h;cases h
 · have:(List.range init.length).countP (fun j => !(Array.replicate ops.toArray.size false).getD j false)≤init.length:=Nat.le_trans List.countP_le_length (by simp);simp only [List.size_toArray] at this ⊢;omega
theorem zJP (fl:List Nat) (df:Defs) (n0:Nat) (pl:List Entry) (hm:P.follows .mixedOrders=true) (hok:zAO ops (ops.map fun _ _ _=>True) ρ [] N=true) (hbk:zBX ops=true)
 (htl:zGA ops (ops.take n0).length=true) (hoks:okOps N ops (ops.drop n0) (domX (ops.take n0) (dom ρ))=true) (hpl:zBS ops 0 (ops.take n0)=some pl) (hfl:∀ i,zCV fl df i→i<(ops.take n0).length) (hdf:zCe ops df)
 (h:∀ K:List (Value→World→Prop)→Prop,(∀ Φs,(∀ w',Ext w0 w'→zBA Φs.reverse (ops.take n0) ρ w' (fun ρ'=>SepE ops fl df ρ'→zAH P r ops (ops.drop n0) ρ' w' (fun ρ'' w''=>Q .normal ρ'' δ w'')))→K Φs)→dRunX P r ρ w0 fl df 0 (ops.take n0) pl [] K):WPE P r N (.region id ops.toArray true) Q δ ρ w0 :=
 wpe_tailX fl df (ops.take n0) (ops.drop n0) pl (List.take_append_drop n0 ops).symm hm hok hbk htl hoks hpl hfl hdf h
def okDef (ops:List Oper) (i:Nat) (ts:List Nat):Bool:=match ops[i]? with
 | some o=>(seesL ops o).all (fun t=>match zCX ops t with | some j=>waits ops i j | none=>false)&&ts.all fun t=>(seesL ops o).contains t
 | none=>false
theorem zCe.nil:zCe ops []:=fun i g h=>by cases h
theorem zCe.cons {df:Defs} (ts:List Nat) (f:List Value→Value) (h:okDef ops i ts=true) (hd:zCe ops df):zCe ops ((i,fun σ=>f (ts.map σ)) :: df):=fun k g hg o ho=>by
 rcases List.mem_cons.1 hg with e | e
 · cases e;unfold okDef at h;rw [ho] at h;simp only [Bool.and_eq_true,List.all_eq_true] at h;refine ⟨fun t ht => ?_,fun σ σ' hs => ?_⟩
   · have:=h.1 t ht;cases hw:zCX ops t with
     | none=>rw [hw] at this;cases this
     | some j=>rw [hw] at this;exact ⟨j,rfl,this⟩
   · show f (ts.map σ)=f (ts.map σ');congr 1;exact List.map_congr_left fun t ht=>hs t (by have:=h.2 t ht;simpa using this)
 · exact hd k g e o ho
theorem Xtra.new {df:Defs} {σ:Nat→Value} (hd:i ∉ df.map (·.1)) (h:zNg w w' v):Xtra fl df i σ w w' v :=
 ⟨fun _=>h,fun _ hg=>absurd (List.mem_map.2 ⟨_,hg,rfl⟩) hd⟩
theorem Xtra.one {g:(Nat→Value)→Value} {σ:Nat→Value} (hi:i ∉ fl) (h:v=g σ):Xtra fl [(i,g)] i σ w w' v :=
 ⟨fun h=>absurd h hi,fun g' hg=>by obtain ⟨_,rfl⟩:=Prod.mk.inj (List.mem_singleton.1 hg);exact h⟩
theorem dxp {df:Defs} {o:Oper} {l:List (Nat×Option Nat)} (Φ:Value→World→Prop) (hi:¬ zCV fl df i)
 (hs:∀ v w w',ExtS [] w0 w→ExtS [] w w'→Φ v w→Φ v w')
 (hob:∀ (σ:Nat→Value) (w:World),Ext w0 w→KnowP Φs ρ w σ l→Runs P r o (lookσ σ) w (fun v w'=>Ext w w'∧Φ v w'))
 (h:dRunX P r ρ w0 fl df (i+1) os es (Φ :: Φs) K):dRunX P r ρ w0 fl df i (o :: os) ((l,none) :: es) Φs K :=
 ⟨Φ,hs,by rw [if_neg hi];exact fun σ w hE hk=>hob σ w hE hk,h⟩
theorem dxv {df:Defs} {o:Oper} {l:List (Nat×Option Nat)} (hi:¬ zCV fl df i)
 (hob:∀ (σ:Nat→Value) (w:World),Ext w0 w→KnowP Φs ρ w σ l→Runs P r o (lookσ σ) w (fun v w'=>Ext w w'∧v=u))
 (h:dRunX P r ρ w0 fl df (i+1) os es ((fun v _=>v=u) :: Φs) K):dRunX P r ρ w0 fl df i (o :: os) ((l,none) :: es) Φs K :=
 ⟨fun v _=>v=u,fun _ _ _ _ _ h=>h,by rw [if_neg hi];exact fun σ w hE hk=>hob σ w hE hk,h⟩
theorem dxn {df:Defs} {o:Oper} {l:List (Nat×Option Nat)} (Φ:Value→World→Prop) (hi:zCV fl df i)
 (hs:∀ v w w',ExtS [] w0 w→ExtS [] w w'→Φ v w→Φ v w')
 (hob:∀ (σ:Nat→Value) (w:World),Ext w0 w→KnowP Φs ρ w σ l→Runs P r o (lookσ σ) w (fun v w'=>Ext w w'∧Φ v w'∧Xtra fl df i σ w w' v))
 (h:dRunX P r ρ w0 fl df (i+1) os es (Φ :: Φs) K):dRunX P r ρ w0 fl df i (o :: os) ((l,none) :: es) Φs K :=
 ⟨Φ,hs,by rw [if_pos hi];exact ⟨rfl,fun σ w hE hk=>hob σ w hE hk⟩,h⟩
theorem zMr {df:Defs} (h:K Φs):dRunX P r ρ w0 fl df i [] es Φs K:=h
end
end Go.Proofs.YtjiendlfobjanaaGreatDoor
