/-
  A part of the proof: Base, Draw, App, Types, Nat64, Spec, RatNum, Spec2, MakeC, Coef, Divs, Hurwitz, Hurwitz2, Height, Height2, Height3, Rever, Ev.
-/
import Derived.Below
import Derived.KernelRfl
import Derived.Laws.Cells
import Derived.Laws.Tables
import Derived.OrdersIn
import Derived.OwnWalk
import Derived.RangeFuncKeeps
import Derived.Shelf.Abstract
import Derived.TacticsIn
import Derived.Test.YtjiendlfobjanaaGreatDoorProg
namespace Go.Proofs.YtjiendlfobjanaaGreatDoor
theorem oM {p:Prop} (h:p:=by omega):p:=h
theorem dK {p:Prop} (h:p:=by decide +kernel):p:=h
theorem dE {p:Prop} (h:p:=by decide):p:=h
theorem kR {p:Prop} (h:p:=by kernel_rfl):p:=h
theorem gR {p:Prop} (h:p:=by grind):p:=h
theorem sM {p:Prop} (h:p:=by simp):p:=h
theorem ct:type_of% @if_neg:=@if_neg
theorem cw:type_of% @Nat.le_of_ble_eq_true:=@Nat.le_of_ble_eq_true
theorem cC:type_of% @List.getD_eq_getElem?_getD:=@List.getD_eq_getElem?_getD
theorem cD:type_of% @if_pos:=@if_pos
theorem cU:type_of% @decide_eq_false:=@decide_eq_false
theorem cW:type_of% @congrArg:=@congrArg
theorem cX:type_of% @Nat.le_refl:=@Nat.le_refl
theorem cY:type_of% @List.getElem?_eq_getElem:=@List.getElem?_eq_getElem
theorem cZ:type_of% @decide_eq_true:=@decide_eq_true
theorem de:type_of% @of_decide_eq_false:=@of_decide_eq_false
theorem dh:type_of% @of_decide_eq_true:=@of_decide_eq_true
theorem di:type_of% @Nat.zero_le:=@Nat.zero_le
theorem dj:type_of% @Option.some.inj:=@Option.some.inj
theorem dk:type_of% @beq_eq_false_iff_ne:=@beq_eq_false_iff_ne
theorem dm:type_of% @Nat.mul_comm:=@Nat.mul_comm
theorem dt:type_of% @Nat.mul_assoc:=@Nat.mul_assoc
theorem dw:type_of% @Nat.pow_le_pow_right:=@Nat.pow_le_pow_right
theorem dx:type_of% @Nat.mul_le_mul_right:=@Nat.mul_le_mul_right
theorem dy:type_of% @Nat.mul_le_mul_left:=@Nat.mul_le_mul_left
theorem dz:type_of% @Nat.le_trans:=@Nat.le_trans
theorem dB:type_of% @Nat.pow_succ:=@Nat.pow_succ
theorem dD:type_of% @Nat.add_sub_cancel:=@Nat.add_sub_cancel
theorem dF:type_of% @List.take_of_length_le:=@List.take_of_length_le
theorem dG:type_of% @List.take_succ_eq_append_getElem:=@List.take_succ_eq_append_getElem
theorem dH:type_of% @Rat.intCast_mul:=@Rat.intCast_mul
theorem dI:type_of% @List.mem_singleton:=@List.mem_singleton
theorem dJ:type_of% @List.length_map:=@List.length_map
theorem dN:type_of% @List.length_append:=@List.length_append
theorem dO:type_of% @Rat.zero_mul:=@Rat.zero_mul
theorem dR:type_of% @Nat.lt_or_ge:=@Nat.lt_or_ge
theorem dS:type_of% @Nat.le_of_eq:=@Nat.le_of_eq
theorem dT:type_of% @Nat.min_eq_left:=@Nat.min_eq_left
theorem dU:type_of% @List.append_assoc:=@List.append_assoc
theorem dV:type_of% @Nat.mul_add:=@Nat.mul_add
theorem dW:type_of% @Nat.zero_add:=@Nat.zero_add
theorem dX:type_of% @Rat.mul_nonneg:=@Rat.mul_nonneg
theorem dY:type_of% @List.getElem?_eq_some_iff:=@List.getElem?_eq_some_iff
theorem dZ:type_of% @List.drop_eq_getElem_cons:=@List.drop_eq_getElem_cons
theorem ed:type_of% @Rat.mul_zero:=@Rat.mul_zero
theorem ee:type_of% @Bool.and_eq_true:=@Bool.and_eq_true
theorem ef:type_of% @List.eq_nil_of_length_eq_zero:=@List.eq_nil_of_length_eq_zero
theorem ej:type_of% @List.take_length:=@List.take_length
theorem eq:type_of% @Nat.pow_pos:=@Nat.pow_pos
theorem et:type_of% @List.length_cons:=@List.length_cons
theorem eu:type_of% @Int.sign_eq_neg_one_of_neg:=@Int.sign_eq_neg_one_of_neg
theorem ew:type_of% @Bool.false_eq_true:=@Bool.false_eq_true
theorem ey:type_of% @Int.natAbs_mul:=@Int.natAbs_mul
theorem ez:type_of% @List.getElem?_eq_none:=@List.getElem?_eq_none
theorem eA:type_of% @decide_eq_true_eq:=@decide_eq_true_eq
theorem eC:type_of% @List.length_pos_iff:=@List.length_pos_iff
theorem eD:type_of% @Rat.add_zero:=@Rat.add_zero
theorem eE:type_of% @Nat.mod_lt:=@Nat.mod_lt
theorem eF:type_of% @Nat.add_mul:=@Nat.add_mul
theorem eG:type_of% @Nat.one_mul:=@Nat.one_mul
theorem eH:type_of% @Ne.symm:=@Ne.symm
theorem eI:type_of% @Int.sign_eq_one_of_pos:=@Int.sign_eq_one_of_pos
theorem eJ:type_of% @List.drop_of_length_le:=@List.drop_of_length_le
theorem eK:type_of% @List.map_append:=@List.map_append
theorem eM:type_of% @Nat.pow_add:=@Nat.pow_add
theorem eN:type_of% @Nat.lt_of_le_of_lt:=@Nat.lt_of_le_of_lt
theorem eO:type_of% @List.drop_length:=@List.drop_length
theorem eS:type_of% @List.getElem?_append_left:=@List.getElem?_append_left
theorem eT:type_of% @List.drop_zero:=@List.drop_zero
theorem eU:type_of% @Nat.le_of_lt:=@Nat.le_of_lt
theorem eV:type_of% @List.take_append_of_le_length:=@List.take_append_of_le_length
theorem eW:type_of% @List.length_take:=@List.length_take
theorem eY:type_of% @List.mem_cons:=@List.mem_cons
theorem eZ:type_of% @List.all_eq_true:=@List.all_eq_true
theorem fe:type_of% @List.length_eq_zero_iff:=@List.length_eq_zero_iff
theorem ff:type_of% @List.length_set:=@List.length_set
theorem fg:type_of% @Nat.div_le_self:=@Nat.div_le_self
theorem fh:type_of% @Rat.mul_pos:=@Rat.mul_pos
theorem fi:type_of% @List.map_cons:=@List.map_cons
theorem fj:type_of% @Array.getElem?_eq_some_iff:=@Array.getElem?_eq_some_iff
theorem fk:type_of% @List.getElem?_take:=@List.getElem?_take
theorem fm:type_of% @Nat.lt_of_lt_of_le:=@Nat.lt_of_lt_of_le
theorem fp:type_of% @List.drop_eq_nil_of_le:=@List.drop_eq_nil_of_le
theorem fs:type_of% @Nat.mul_le_mul:=@Nat.mul_le_mul
theorem ft:type_of% @Nat.le_of_not_lt:=@Nat.le_of_not_lt
theorem fu:type_of% @List.append_nil:=@List.append_nil
theorem fv:type_of% @Nat.ne_of_lt:=@Nat.ne_of_lt
theorem fw:type_of% @Nat.add_zero:=@Nat.add_zero
theorem fx:type_of% @Int.natAbs_neg:=@Int.natAbs_neg
theorem fy:type_of% @Nat.mod_two_eq_zero_or_one:=@Nat.mod_two_eq_zero_or_one
theorem fz:type_of% @List.getElem?_set_ne:=@List.getElem?_set_ne
theorem fA:type_of% @List.drop_append_of_le_length:=@List.drop_append_of_le_length
theorem fC:type_of% @List.getElem?_map:=@List.getElem?_map
theorem fD:type_of% @List.getElem_mem:=@List.getElem_mem
theorem fE:type_of% @Nat.div_eq_of_lt:=@Nat.div_eq_of_lt
theorem fF:type_of% @List.length_replicate:=@List.length_replicate
theorem fG:type_of% @Rat.num_eq_zero:=@Rat.num_eq_zero
theorem fH:type_of% @Classical.byContradiction:=@Classical.byContradiction
theorem fI:type_of% @Nat.div_one:=@Nat.div_one
theorem fJ:type_of% @List.getElem?_append_right:=@List.getElem?_append_right
theorem fK:type_of% @Int.tdiv_eq_ediv_of_nonneg:=@Int.tdiv_eq_ediv_of_nonneg
theorem fL:type_of% @Nat.mod_eq_of_lt:=@Nat.mod_eq_of_lt
theorem fM:type_of% @Nat.sub_self:=@Nat.sub_self
theorem fN:type_of% @List.getElem?_drop:=@List.getElem?_drop
theorem fO:type_of% @bne_iff_ne:=@bne_iff_ne
theorem fP:type_of% @bne_eq_false_iff_eq:=@bne_eq_false_iff_eq
theorem fQ:type_of% @Rat.intCast_neg:=@Rat.intCast_neg
theorem fR:type_of% @decide_eq_decide:=@decide_eq_decide
theorem fS:type_of% @Int.toNat_natCast:=@Int.toNat_natCast
theorem fT:type_of% @Nat.mul_one:=@Nat.mul_one
theorem fU:type_of% @Int.sign_eq_zero_iff_zero:=@Int.sign_eq_zero_iff_zero
theorem fV:type_of% @Nat.eq_zero_or_pos:=@Nat.eq_zero_or_pos
theorem fW:type_of% @Nat.mul_zero:=@Nat.mul_zero
theorem fX:type_of% @Nat.div_div_eq_div_mul:=@Nat.div_div_eq_div_mul
theorem fY:type_of% @if_false:=@if_false
theorem fZ:type_of% @Nat.div_add_mod:=@Nat.div_add_mod
theorem ga:type_of% @if_true:=@if_true
theorem gc:type_of% @List.ext_getElem:=@List.ext_getElem
theorem gd:type_of% @Nat.log2_lt:=@Nat.log2_lt
theorem ge:type_of% @beq_iff_eq:=@beq_iff_eq
theorem gf:type_of% @List.length_singleton:=@List.length_singleton
theorem gg:type_of% @Nat.mul_lt_mul_of_pos_right:=@Nat.mul_lt_mul_of_pos_right
theorem gh:type_of% @Nat.le_mul_of_pos_right:=@Nat.le_mul_of_pos_right
theorem gi:type_of% @Nat.sub_add_cancel:=@Nat.sub_add_cancel
theorem gj:type_of% @Int.natCast_mul:=@Int.natCast_mul
theorem gk:type_of% @List.length_eq_one_iff:=@List.length_eq_one_iff
theorem gm:type_of% @Decidable.byContradiction:=@Decidable.byContradiction
theorem gn:type_of% @List.flatten_cons:=@List.flatten_cons
theorem gp:type_of% @Nat.div_lt_iff_lt_mul:=@Nat.div_lt_iff_lt_mul
theorem gq:type_of% @Option.isSome_iff_exists:=@Option.isSome_iff_exists
theorem gr:type_of% @Nat.pow_lt_pow_iff_right:=@Nat.pow_lt_pow_iff_right
theorem gs:type_of% @Rat.zero_add:=@Rat.zero_add
theorem gt:type_of% @Nat.mul_ne_zero:=@Nat.mul_ne_zero
theorem gu:type_of% @List.nil_append:=@List.nil_append
theorem gv:type_of% @Nat.lt_succ_self:=@Nat.lt_succ_self
theorem gw:type_of% @List.ext_getElem?:=@List.ext_getElem?
theorem gx:type_of% @Nat.gcd_comm:=@Nat.gcd_comm
theorem gy:type_of% @List.drop_take:=@List.drop_take
theorem gz:type_of% @List.replicate_succ:=@List.replicate_succ
theorem gA:type_of% @List.getElem_mapIdx:=@List.getElem_mapIdx
theorem gB:type_of% @Nat.pow_le_pow_left:=@Nat.pow_le_pow_left
theorem gC:type_of% @LawfulBEq.eq_of_beq:=@LawfulBEq.eq_of_beq
theorem gD:type_of% @List.mem_append:=@List.mem_append
theorem gF:type_of% @Nat.not_lt_zero:=@Nat.not_lt_zero
theorem gG:type_of% @Nat.pos_of_ne_zero:=@Nat.pos_of_ne_zero
theorem gH:type_of% @List.length_drop:=@List.length_drop
theorem gI:type_of% @List.mem_map:=@List.mem_map
theorem gJ:type_of% @Nat.lt_succ_iff_lt_or_eq:=@Nat.lt_succ_iff_lt_or_eq
theorem gK:type_of% @List.mem_append_left:=@List.mem_append_left
theorem gL:type_of% @Nat.pow_mul:=@Nat.pow_mul
theorem gM:type_of% @List.take_take:=@List.take_take
theorem gN:type_of% @List.getElem?_replicate:=@List.getElem?_replicate
theorem gO:type_of% @Int.lt_trichotomy:=@Int.lt_trichotomy
theorem gP:type_of% @UInt8.toNat_inj:=@UInt8.toNat_inj
theorem gQ:type_of% @List.take_set_of_le:=@List.take_set_of_le
theorem gS:type_of% @Array.getD_eq_getD_getElem?:=@Array.getD_eq_getD_getElem?
theorem gT:type_of% @Rat.intCast_le_intCast:=@Rat.intCast_le_intCast
theorem gU:type_of% @Nat.zero_mul:=@Nat.zero_mul
theorem gV:type_of% @Nat.le_add_right:=@Nat.le_add_right
theorem gW:type_of% @Int.natAbs_natCast:=@Int.natAbs_natCast
theorem gX:type_of% @Prod.mk.inj:=@Prod.mk.inj
theorem gY:type_of% @List.mem_of_getElem?:=@List.mem_of_getElem?
theorem gZ:type_of% @Rat.one_mul:=@Rat.one_mul
theorem hZ:type_of% @Rat.neg_num:=@Rat.neg_num
theorem ia:type_of% @Int.le_refl:=@Int.le_refl
theorem ib:type_of% @Bool.eq_false_iff:=@Bool.eq_false_iff
theorem ig:type_of% @List.any_eq_true:=@List.any_eq_true
theorem ii:type_of% @decide_eq_false_iff_not:=@decide_eq_false_iff_not
theorem ij:type_of% @Nat.gcd_dvd_left:=@Nat.gcd_dvd_left
theorem ik:type_of% @Nat.mul_div_cancel_left:=@Nat.mul_div_cancel_left
theorem il:type_of% @List.map_nil:=@List.map_nil
theorem io:type_of% @List.set_cons_succ:=@List.set_cons_succ
theorem iq:type_of% @Rat.sub_eq_add_neg:=@Rat.sub_eq_add_neg
theorem is:type_of% @Nat.lt_trans:=@Nat.lt_trans
theorem it:type_of% @Int.natAbs_eq_zero:=@Int.natAbs_eq_zero
theorem iu:type_of% @Classical.em:=@Classical.em
theorem iv:type_of% @List.mem_cons_self:=@List.mem_cons_self
theorem iw:type_of% @Bool.or_eq_true:=@Bool.or_eq_true
theorem iy:type_of% @Nat.two_pow_pos:=@Nat.two_pow_pos
theorem iz:type_of% @Int.mul_ne_zero:=@Int.mul_ne_zero
theorem iA:type_of% @List.range_succ:=@List.range_succ
theorem iB:type_of% @Nat.add_assoc:=@Nat.add_assoc
theorem iC:type_of% @Nat.lt_trichotomy:=@Nat.lt_trichotomy
theorem iD:type_of% @Rat.div_def:=@Rat.div_def
theorem iE:type_of% @Rat.mul_one:=@Rat.mul_one
theorem iF:type_of% @List.map_map:=@List.map_map
theorem iG:type_of% @decide_false:=@decide_false
theorem iH:type_of% @Nat.add_comm:=@Nat.add_comm
theorem iI:type_of% @List.drop_append:=@List.drop_append
theorem iJ:type_of% @List.cons.inj:=@List.cons.inj
theorem iK:type_of% @Bool.true_and:=@Bool.true_and
theorem iL:type_of% @Nat.sub_le:=@Nat.sub_le
theorem iM:type_of% @decide_true:=@decide_true
theorem iN:type_of% @Rat.neg_den:=@Rat.neg_den
open Go Go.RowKit
variable {E N b bytes c cap i id k len n t:Nat} {K' Φ:Value->World->Prop} {P:Program} {T T' t' ty:TypeId} {af:Array Edge} {args:Array Value} {cs cs':List Value} {dst:Option Tmp} {f:FuncId} {fn:Func} {g:Option (Nat×Bool)} {k':IntKind} {op:Op} {ops os:List Oper} {pos:String} {r:Option Nat} {ts:Array TypeId} {v:Value} {w w':World} {α β:Type} {δ:List Deferred} {σ:Operand->Value}
def W (r:Option Nat):Fence:={ Fence.wide with round:=r }
theorem zTd {R:Ending->World->Prop} (h:Calls P f args w R):CallsIn (W r) n P f args w R:=by
 have:=(callsIn_wide (n:=n)).2 h;exact this
theorem callsW' {R:Ending->World->Prop} (h:CallsIn (W r) n P f args w R):Calls P f args w R:=by
 have:CallsIn Fence.wide n P f args w R:=h;exact callsIn_wide.1 this
def Runs (P:Program) (r:Option Nat) (o:Oper) (σ:Operand->Value) (w:World) (K:Value->World->Prop):Prop :=
 match (o.semAt r σ).run P w with
 | .ok (.value v) w'=>K v w'
 | .ok .skip w'=>K undef w'
 | .ok (.enter f args) w'=>Calls P f args w' (fun e w''=>∃ v,e = .returned v/\K v w'')
 | .ok (.row row args) w'=>RowsIn (W r) 0 P row args w' K
 | .ok (.round l f A h B) w'=>RoundIn (W r) 0 P l f A h B w' (fun e w''=>∃ v,e = .returned v/\K v w'')
 | _=>False
theorem Runs.wpIn {o:Oper} {a:Act} {K:Value->World->Prop} {next:Act->World->Prop} {Q:Exit->Act->World->Prop}
 (h:Runs P r o a.eval w K) (A:∀ v w',K v w'->next (a.put o.dst v) w'):o.wpIn (W r) 0 P a w next Q:=by
 refine ⟨fun _ _=>trivial,?_⟩;show o.uponIn (W r) 0 P a next Q ((o.semAt r a.eval).run P w)
 unfold Runs at h;generalize (o.semAt r a.eval).run P w=x at h;cases x with
 | ok n w' =>
  cases n<;>simp only [Oper.uponIn] at h ⊢
  case value v=>exact A _ _ h
  case skip=>exact A _ _ h
  case enter f args =>
   refine ⟨(fun B=>by cases B),zTd (h.mono ?_)⟩;rintro e F ⟨v,rfl,C⟩;exact A _ _ C
  case row row args=>exact ⟨(fun B=>by cases B),h.mono (fun v F C=>A _ _ C)⟩
  case round =>
   refine ⟨(fun B=>by cases B),h.mono ?_⟩;rintro e F ⟨v,rfl,C⟩;exact A _ _ C
 | halt x w'=>cases x<;>exact h.elim
theorem Runs.mono {o:Oper} {K:Value->World->Prop}
 (h:Runs P r o σ w K) (A:∀ v w',K v w'->K' v w'):Runs P r o σ w K':=by
 unfold Runs at h ⊢;generalize (o.semAt r σ).run P w=x at h;cases x with
 | ok n w' =>
  cases n<;>simp only at h ⊢
  case value v=>exact A _ _ h
  case skip=>exact A _ _ h
  case enter f args=>exact h.mono (fun e C ⟨v,B,F⟩=>⟨v,B,A _ _ F⟩)
  case row row args=>exact RowsIn.mono h (fun v C B=>A _ _ B)
  case round=>exact h.mono (fun e C ⟨v,B,F⟩=>⟨v,B,A _ _ F⟩)
 | halt x w'=>cases x<;>exact h.elim
abbrev Env:=List (Nat×Value)
def look1:Env->Nat->Value
 | [],_=>undef
 | (k,v) :: e,t=>if t=k then v else look1 e t
def look (ρ:Env):Operand->Value
 | .tmp t=>look1 ρ t
 | .const v=>v
 | .global g => .pointer (some ⟨g,0,none⟩)
 | .func f => .func (.func f) #[] #[]
def dom (ρ:Env):List Nat:=ρ.map Prod.fst
structure Fr (N:Nat) (a:Act) (ρ:Env):Prop where
 size:a.tmps.size=N
 at_:∀ t,t∈dom ρ->a.tmps.getD t undef=look1 ρ t
theorem Fr.eval {a:Act} {ρ:Env} (h:Fr N a ρ) (x:Operand) (C:∀ t,x = .tmp t->t∈dom ρ):a.eval x=look ρ x:=by
 cases x with
 | tmp t=>exact h.at_ t (C t rfl)
 | const v=>rfl
 | global g=>rfl
 | func f=>rfl
def ext (ρ:Env):Option Tmp->Value->Env
 | some d,v=>(d,v) :: ρ
 | none,_=>ρ
theorem Fr.put {a:Act} {ρ:Env} (h:Fr N a ρ) (dst:Option Tmp) (v:Value) (C:∀ d,dst=some d->d<N):Fr N (a.put dst v) (ext ρ dst v):=by
 cases dst with
 | none=>exact h
 | some d =>
  have A:=C d rfl;refine ⟨by simp [Act.put,h.size],fun t e => ?_⟩;simp only [Act.put,ext,look1];by_cases htd:t=d
  . subst htd;simp [h.size,A]
  . rw [ct htd];have B:t∈dom ρ:=by
     simp only [ext,dom,fi,eY] at e;rcases e with e | e
     . exact absurd e htd
     . exact e
    rw [<- h.at_ t B];simp [Array.getElem?_setIfInBounds_ne (eH htd)]
theorem Fr.keep {a:Act} {ρ ρ':Env} (h:Fr N a ρ) (e:∀ t∈dom ρ',t∈dom ρ/\look1 ρ' t=look1 ρ t):Fr N a ρ' :=
 ⟨h.size,fun t A=>by rw [(e t A).2];exact h.at_ t (e t A).1⟩
def zUH (l:List Operand):List Nat:=l.filterMap fun | .tmp t=>some t | _=>none
def seesL (ops:List Oper) (o:Oper):List Nat :=
 zUH o.op.operands.toList++(match o.guard with | some (j,_)=>((ops[j]?).bind (·.dst)).toList | none=>[])
def okOps (N:Nat) (ops:List Oper):List Oper->List Nat->Bool
 | [],_=>true
 | o :: os,D=>(seesL ops o).all (D.contains ·)&&(match o.dst with | some d=>decide (d<N) | none=>true)&&(match o.op with | .select _ _=>false | .defer _=>false | _=>true) &&
  okOps N ops os (match o.dst with | some d=>d :: D | none=>D)
def yes (e:Bool):Value->Bool
 | .bool b=>b==e
 | _=>false
def zEo (ops:List Oper) (o:Oper) (ρ:Env):Bool :=
 match o.guard with
 | none=>true
 | some (j,e)=>match (ops[j]?).bind (·.dst) with
  | some t=>yes e (look1 ρ t)
  | none=>false
theorem zDJ {o:Oper} (h:∀ c,o.op≠.defer c):o.semAt r σ=execOp σ o:=Oper.semAt_eq _ _ _ h
theorem Runs.congr {o:Oper} {σ':Operand->Value} {K:Value->World->Prop} (e:∀ cs b,o.op≠.select cs b) (A:∀ c,o.op≠.defer c)
 (h:∀ x∈o.op.operands,σ x=σ' x) (B:Runs P r o σ w K):Runs P r o σ' w K:=by
 unfold Runs at *;rw [zDJ A] at *;rwa [<- execOp_congr o e h]
def zAX (P:Program) (r:Option Nat) (ops:List Oper):List Oper->Env->World->(Env->World->Prop)->Prop
 | [],ρ,w,K=>K ρ w
 | o :: os,ρ,w,K=>if zEo ops o ρ=true then Runs P r o (look ρ) w (fun v w'=>zAX P r ops os (ext ρ o.dst v) w' K) else zAX P r ops os (ext ρ o.dst undef) w K
theorem zGp {l:List Operand} (h:Operand.tmp t∈l):t∈zUH l:=List.mem_filterMap.2 ⟨.tmp t,h,rfl⟩
theorem Fr.wanted {a:Act} {ρ:Env} (h:Fr N a ρ) {o:Oper} (C:∀ t∈seesL ops o,t∈dom ρ) (A:∀ (t:Nat),t∈dom ρ->t<N) :
 Region.wanted o (yielded ops.toArray a.tmps)=zEo ops o ρ:=by
 unfold Region.wanted zEo;cases F:o.guard with
 | none=>rfl
 | some G =>
  obtain ⟨j,B⟩:=G;simp only [yielded,List.getElem?_toArray];cases ht:(ops[j]?).bind (·.dst) with
  | none=>simp
  | some t =>
   have e:t∈dom ρ:=C t (by simp [seesL,F,ht]);have hv:=h.at_ t e;have hlt:=A t e;rw [<- h.size] at hlt;simp only [Option.bind_some];rw [Array.getElem?_eq_getElem hlt];have hv':a.tmps[t]=look1 ρ t:=by rw [<- hv];simp [hlt]
   rw [hv'];cases look1 ρ t<;>simp [yes]
theorem zGC {P:Program} {r:Option Nat} {N:Nat} {ops:List Oper} {Q:Exit->Act->World->Prop}:∀ (os:List Oper) (ρ:Env) (a:Act) (w:World) (K:Env->World->Prop),
 okOps N ops os (dom ρ)=true->(∀ t∈dom ρ,t<N)->Fr N a ρ->zAX P r ops os ρ w K->(∀ I ρ' w',Fr N I ρ'->I.defers=a.defers->K ρ' w'->Q .normal I w') ->
 wpListIn (W r) 0 P ops.toArray Q os a w
 | [],ρ,a,w,K,_,_,M,A,X=>X a ρ w M rfl A
 | o :: os,ρ,a,w,K,O,h,M,A,X=>by
  simp only [okOps,ee,eZ,List.contains_iff_mem] at O;obtain ⟨⟨⟨h1,h2⟩,V⟩,h4⟩:=O;have hd:∀ d,o.dst=some d->d<N:=fun d hd=>by simpa [hd] using h2
  have G:∀ v,dom (ext ρ o.dst v)=(match o.dst with | some d=>d :: dom ρ | none=>dom ρ):=fun v=>by cases o.dst<;>rfl
  have H:∀ v,∀ t∈dom (ext ρ o.dst v),t<N:=fun v t B=>by
   cases C:o.dst with
   | none=>rw [C] at B;exact h t B
   | some d =>
    rw [C] at B;simp only [ext,dom,fi,eY] at B;rcases B with rfl | B
    . exact hd _ C
    . exact h t B
  have next:∀ v w',zAX P r ops os (ext ρ o.dst v) w' K->wpListIn (W r) 0 P ops.toArray Q os (a.put o.dst v) w':=fun v w' h' =>
   zGC os (ext ρ o.dst v) (a.put o.dst v) w' K (by rw [G];exact h4) (H v) (M.put o.dst v hd) h' (fun I ρ' Y Z aa ab=>X I ρ' Y Z (by rw [aa];cases o.dst<;>rfl) ab)
  have hw:=M.wanted (ops:=ops) (o:=o) h1 h;have hsel:∀ cs b,o.op≠.select cs b:=fun cs b e=>by rw [e] at V;cases V
  have U:∀ c,o.op≠.defer c:=fun c e=>by rw [e] at V;cases V
  unfold wpListIn;rw [hw];simp only [zAX] at A;split
  . rename_i F;rw [cD F] at A;refine (Runs.congr (σ':=a.eval) hsel U ?_ A).wpIn next
    intro x hx;refine (M.eval x fun t e=>h1 t ?_).symm;subst e;exact gK _ (zGp (by simpa using hx))
  . rename_i F;rw [ct F] at A;exact ⟨fun _ _=>trivial,next _ _ A⟩
abbrev Post:=Exit->Env->List Deferred->World->Prop
def lift (N:Nat) (Q:Post):Exit->Act->World->Prop:=fun e a w=>∃ ρ,Fr N a ρ/\Q e ρ a.defers w
def WPE (P:Program) (r:Option Nat) (N:Nat) (c:Code) (Q:Post) (δ:List Deferred) (ρ:Env) (w:World):Prop :=
 ∀ a,Fr N a ρ->a.defers=δ->c.wpIn (W r) 0 P (lift N Q) a w
def okReg (N:Nat) (ops:List Oper) (ρ:Env):Bool:=(dom ρ).all (fun t=>decide (t<N))&&okOps N ops ops (dom ρ)
def seqQ (K:Env->List Deferred->World->Prop) (Q:Post):Post:=fun e ρ δ w=>match e with | .normal=>K ρ δ w | e=>Q e ρ δ w
def zJH (id:Nat) (Q:Post):Post:=fun e ρ δ w=>match e with | .exit id'=>if id'=id then Q .normal ρ δ w else Q (.exit id') ρ δ w | e=>Q e ρ δ w
def loopQ (δ0:List Deferred) (J:Env->World->Prop) (Q:Post):Post:=fun e ρ δ w=>match e with | .normal=>δ=δ0/\J ρ w | e=>Q e ρ δ w
section posts
variable {K:Env->List Deferred->World->Prop} {Q:Post} {J:Env->World->Prop} {ρ:Env} {δ0:List Deferred} {id':Nat}
theorem zK (h:K ρ δ w):seqQ K Q .normal ρ δ w:=h
theorem zt (h:Q (.exit id) ρ δ w):seqQ K Q (.exit id) ρ δ w:=h
theorem zU (h:Q .ret ρ δ w):seqQ K Q .ret ρ δ w:=h
theorem zN (h:Q .normal ρ δ w):zJH id Q .normal ρ δ w:=h
theorem zd (h:Q .ret ρ δ w):zJH id Q .ret ρ δ w:=h
theorem zI (h:Q .normal ρ δ w):zJH id Q (.exit id) ρ δ w:=by simp only [zJH,ga];exact h
theorem zDj (e:id'≠id) (h:Q (.exit id') ρ δ w):zJH id Q (.exit id') ρ δ w:=by simp only [zJH,ct e];exact h
theorem zL (h:δ=δ0/\J ρ w):loopQ δ0 J Q .normal ρ δ w:=h
theorem zf (h:Q (.exit id) ρ δ w):loopQ δ0 J Q (.exit id) ρ δ w:=h
theorem zAP (h:Q .ret ρ δ w):loopQ δ0 J Q .ret ρ δ w:=h
end posts
section rules
variable {Q:Post} {ρ:Env}
theorem wpe_mono {c:Code} {C:Post} (h:WPE P r N c Q δ ρ w) (F:∀ e ρ δ w,Q e ρ δ w->C e ρ δ w):WPE P r N c C δ ρ w :=
 fun a A G=>wpIn_mono (h a A G) (fun _ _ _ ⟨ρ,A,B⟩=>⟨ρ,A,F _ _ _ _ B⟩)
theorem zRq {c:Code} (ρ':Env) (e:∀ t∈dom ρ',t∈dom ρ/\look1 ρ' t=look1 ρ t) (h:WPE P r N c Q δ ρ' w):WPE P r N c Q δ ρ w :=
 fun a A B=>h a (A.keep e) B
theorem zA {x y:Code} (h:WPE P r N x (seqQ (fun ρ δ w=>WPE P r N y Q δ ρ w) Q) δ ρ w):WPE P r N (.seq x y) Q δ ρ w:=fun a A hd=>by
 refine wpIn_seq (wpIn_mono (h a A hd) ?_);rintro e a w ⟨ρ,A,C⟩;cases e with
 | normal=>exact C a A rfl
 | _=>exact ⟨ρ,A,C⟩
theorem zMU (e:okReg N ops ρ=true) (h:zAX P r ops ops ρ w (fun ρ' w'=>Q .normal ρ' δ w')):WPE P r N (.region id ops.toArray false) Q δ ρ w:=fun a hf C=>by
 simp only [okReg,ee,eZ,eA] at e;refine wpIn_region_lit (zGC ops ρ a w _ e.2 e.1 hf h ?_);intro G ρ' w' A B F;exact ⟨ρ',A,by rw [B,C];exact F⟩
theorem zFG {y:Code} (e:okReg N ops ρ=true)
 (h:∀ K:Env->World->Prop,(∀ ρ' w',WPE P r N y Q δ ρ' w'->K ρ' w')->zAX P r ops ops ρ w K):WPE P r N (.seq (.region id ops.toArray false) y) Q δ ρ w :=
 zA (zMU e (h _ fun _ _ h=>h))
theorem zJx {c:Operand} {x y:Code} (b:Bool) (A:(match c with | .tmp t=>(dom ρ).contains t | _=>true)=true) (B:look ρ c = .bool b) (h:WPE P r N (if b then x else y) Q δ ρ w):WPE P r N (.cond c x y) Q δ ρ w:=fun a hf hd=>by
 refine wpIn_cond (t:=b) ?_ (h a hf hd);rw [hf.eval c,B];intro t e;subst e;simpa using A
theorem zw (h:Q .normal ρ δ w):WPE P r N .skip Q δ ρ w:=fun a e A=>wpIn_skip ⟨ρ,e,by rw [A];exact h⟩
theorem zE (h:Q .ret ρ δ w):WPE P r N .ret Q δ ρ w:=fun a e A=>wpIn_ret ⟨ρ,e,by rw [A];exact h⟩
theorem zT (h:Q (.exit id) ρ δ w):WPE P r N (.exit id) Q δ ρ w:=fun a e A=>wpIn_exit ⟨ρ,e,by rw [A];exact h⟩
theorem zF {c:Code} (h:WPE P r N c (zJH id Q) δ ρ w):WPE P r N (.block id c) Q δ ρ w:=fun a B F=>by
 refine wpIn_block (wpIn_mono (h a B F) ?_);rintro e a w ⟨ρ,B,A⟩;cases e with
 | exit id' =>
  simp only [Exit.inBlock,zJH] at A ⊢;split
  . rename_i e;rw [cD e] at A;exact ⟨ρ,B,A⟩
  . rename_i e;rw [ct e] at A;exact ⟨ρ,B,A⟩
 | _=>exact ⟨ρ,B,A⟩
theorem zX {X:Type} {c:Code} (I:X->Env->World->Prop) (μ:X->Nat) (G:X) (Y:I G ρ w)
 (ad:∀ x ρ w,I x ρ w->WPE P r N c (loopQ δ (fun ρ' w'=>∃ x',I x' ρ' w'/\μ x'<μ x) Q) δ ρ w):WPE P r N (.loop c) Q δ ρ w:=fun a hf hd=>by
 intro b k cs am hb hr
 have an:∀ j x a ρ w,μ x=j->Fr N a ρ->a.defers=δ->I x ρ w ->
  ∃ e a' w',lift N Q e a' w'/\ArrivesIn (Machine.fenced P (W r)) P (lone (b.atR a (.code c :: .inLoop c :: k)) cs w) b k cs e a' w':=by
  intro j
  induction j using Nat.strongRecOn with
  | _ j ih =>
   intro x a ρ w hn hf hd hI;obtain ⟨e,a₁,w₁,⟨h,A,F⟩,B⟩:=ad x ρ w hI a hf hd b (.inLoop c :: k) cs am hb hr;cases e with
   | normal =>
    obtain ⟨M,H,O,ao⟩:=F;obtain ⟨Z,aa,ab,U,C⟩:=ih (μ H) (hn ▸ ao) H a₁ h w₁ rfl A M O;exact ⟨Z,aa,ab,U,.of_steps (StepsIn.trans B (.one (fenced_calm hb hr rfl) stepR_inLoop)) C⟩
   | exit id=>exact ⟨_,a₁,w₁,⟨h,A,F⟩,.pass (x := .inLoop c) rfl (fun _ _ => .inl sM) B⟩
   | goto l=>exact ⟨_,a₁,w₁,⟨h,A,F⟩,.pass (x := .inLoop c) rfl (fun _ _ => .inl sM) B⟩
   | ret=>exact ⟨_,a₁,w₁,⟨h,A,F⟩,.pass (x := .inLoop c) rfl (fun _ _ => .inl sM) B⟩
   | panic ch=>exact ⟨_,a₁,w₁,⟨h,A,F⟩,.pass (x := .inLoop c) rfl (fun _ _ => .inl sM) B⟩
   | outgrown=>exact ⟨_,a₁,w₁,⟨h,A,F⟩,.pass (x := .inLoop c) rfl (fun _ _ => .inl sM) B⟩
 obtain ⟨e,a',w',F,B⟩:=an _ G a ρ w rfl hf hd Y;exact ⟨e,a',w',F,.of_steps (.one (fenced_calm hb hr rfl) stepR_loop) B⟩
end rules
def Ext (w w':World):Prop:=Below w.heap.size w w'
theorem Ext.refl (w:World):Ext w w:=Below.refl _ _
theorem Ext.trans {a b c:World} (h:Ext a b) (k:Ext b c):Ext a c:=Below.trans h (Below.mono k h.size)
theorem Ext.size {a b:World} (h:Ext a b):a.heap.size<=b.heap.size:=Below.size h
theorem Ext.heap {a b:World} (h:Ext a b) {o:Obj} (e:a.heap[k]? = some o):b.heap[k]? = some o:=by
 rw [Below.block h k];exact e;exact (fj.1 e).1
theorem Ext.push (o:Obj):Ext w { w with heap:=w.heap.push o } :=
 ⟨rfl,rfl,rfl,sM,fun k h=>by show (w.heap.push o)[k]? = _;rw [Array.getElem?_push,ct oM]⟩
theorem Ext.drawn (n:Nat):Ext w { w with drawn:=n }:=⟨rfl,rfl,rfl,cX _,fun _ _=>rfl⟩
def Ret (P:Program) (f:FuncId) (args:Array Value) (w:World) (Φ:Value->World->Prop):Prop :=
 Calls P f args w fun e w'=>∃ v,e = .returned v/\Ext w w'/\Φ v w'
theorem Ret.mono {A:Value->World->Prop} (h:Ret P f args w Φ) (C:∀ v w',Ext w w'->Φ v w'->A v w'):Ret P f args w A :=
 Calls.mono h fun _ _ ⟨v,e,B,F⟩=>⟨v,e,B,C _ _ B F⟩
def args0:Nat->List Value->Env
 | _,[]=>[]
 | i,v :: e=>(i,v) :: args0 (i+1) e
def Gives (P:Program) (fn:Func) (N:Nat) (ρ:Env) (w:World) (v:Value):Prop:=∀ a,Fr N a ρ->(results fn a.tmps).run P w = .ok v w
theorem zOH:∀ (e:List Value) (i t:Nat),t∈dom (args0 i e)↔i<=t/\t<i+e.length
 | [],i,t=>by simp [args0,dom]
 | v :: e,i,t=>by
  have:=zOH e (i+1) t;simp only [args0,dom,fi,eY,et] at this ⊢;rw [this];omega
theorem zLq:∀ (A:List Value) (i t:Nat),i<=t->look1 (args0 i A) t=A.getD (t-i) undef
 | [],i,t,_=>by simp [args0,look1]
 | v :: A,i,t,h=>by
  simp only [args0,look1];by_cases e:t=i
  . subst e;simp
  . rw [ct e,zLq A (i+1) t oM];have:t-i=(t-(i+1))+1:=by omega
    rw [this];simp
theorem zJj (fn:Func) (args:Array Value) (h:args.size<=fn.ntmps):Fr fn.ntmps { tmps:=args++Array.replicate (fn.ntmps-args.size) undef,defers:=[] } (args0 0 args.toList):=by
 refine ⟨by simp;omega,fun t A => ?_⟩;have ht':=(zOH _ _ _).1 A;rw [zLq _ _ _ (di _)];have hlt:t<args.size:=by simpa using ht'.2
 simp only [gS];rw [Array.getElem?_append_left hlt];simp [hlt]
def funQ (J:Env->List Deferred->World->Prop):Post:=fun e ρ δ w=>match e with | .normal=>J ρ δ w | .ret=>J ρ δ w | _=>False
theorem zQq {J:Env->List Deferred->World->Prop} {ρ:Env} (h:J ρ δ w):funQ J .normal ρ δ w:=h
theorem zM {J:Env->List Deferred->World->Prop} {ρ:Env} (h:J ρ δ w):funQ J .ret ρ δ w:=h
theorem ret_of_wpe {c:Code} (N:Nat)
 (O:P.funcs[f]? = some fn) (U:fn.body=some c) (V:fn.ntmps=N) (A:args.size<=N)
 (h:WPE P none N c (funQ fun ρ δ w'=>δ=[]/\∃ v,Gives P fn N ρ w' v/\Ext w w'/\Φ v w') [] (args0 0 args.toList) w):Ret P f args w Φ:=by
 subst V;refine callsW' (r:=none) (n:=0) (callsIn_of_wp O U trivial ?_);refine wpIn_mono (h _ (zJj fn args A) rfl) ?_;rintro e a w' ⟨ρ,B,F⟩;cases e with
 | normal=>obtain ⟨G,v,H,I,M⟩:=F;exact ⟨G,v,H a B,v,rfl,I,M⟩
 | ret=>obtain ⟨G,v,H,I,M⟩:=F;exact ⟨G,v,H a B,v,rfl,I,M⟩
 | _=>exact F.elim
section gives
variable {ρ:Env}
theorem zZ (h:fn.results = #[.tmp t]) (e:(dom ρ).contains t=true):Gives P fn N ρ w (look1 ρ t):=fun a A=>by
 rw [results_tmp h,A.at_ t (by simpa using e)]
theorem zv {u:Nat} (h:fn.results = #[.tmp t,.tmp u]) (A:(dom ρ).contains t=true) (B:(dom ρ).contains u=true):Gives P fn N ρ w (.tuple #[look1 ρ t,look1 ρ u]):=fun a e=>by
 rw [results_tmp2 h,e.at_ t (by simpa using A),e.at_ u (by simpa using B)]
theorem zGl (h:fn.results = #[]):Gives P fn N ρ w (.tuple #[]):=fun _ _=>results_none h _ _ _
end gives
theorem amap (f:α->β) (a:Array α):(a.toList.map f).toArray=a.map f:=by rw [<- Array.toList_map,Array.toArray_toList]
def Blk (w:World) (b:Nat) (T:TypeId) (cs:List Value):Prop:=w.heap[b]? = some (.cells ⟨cs⟩ T (0,0))
theorem Blk.lt (h:Blk w b T cs):b<w.heap.size:=(fj.1 h).1
theorem Blk.ext (h:Blk w b T cs) (e:Ext w w'):Blk w' b T cs:=e.heap h
theorem Blk.cell (h:Blk w b T cs) (o:Nat):w.cell? ⟨b,o,none⟩=cs[o]? := by
 unfold Blk at h;simp [World.cell?,h]
theorem Blk.inj (h:Blk w b T cs) (e:Blk w b T' cs'):T=T'/\cs=cs':=by
 unfold Blk at h e;rw [h] at e;simp at e;exact ⟨e.2,e.1⟩
structure Upd (b:Nat) (w w':World):Prop where
 os:w'.os=w.os
 tape:w'.tape=w.tape
 output:w'.output=w.output
 size:w'.heap.size=w.heap.size
 block:∀ k,k≠b->w'.heap[k]? = w.heap[k]?
 kind:∀ T cs,Blk w b T cs->∃ cs',Blk w' b T cs'
theorem Blk.upd (h:Blk w c T cs) (e:Upd b w w') (A:c≠b):Blk w' c T cs:=by
 unfold Blk at *;rw [e.block c A];exact h
theorem Ext.upd {A:World} (h:Ext w w') (e:Upd b w' A) (B:w.heap.size<=b):Ext w A :=
 Below.trans h ⟨e.os,e.tape,e.output,by rw [e.size];exact cX _,fun k C=>e.block k oM⟩
def World.setBlk (w:World) (b:Nat) (T:TypeId) (cs:List Value):World:={ w with heap:=w.heap.setIfInBounds b (.cells ⟨cs⟩ T (0,0)) }
theorem zGy (T:TypeId) (cs:List Value) (h:b<w.heap.size):Blk (World.setBlk w b T cs) b T cs:=by
 simp [Blk,World.setBlk,h]
theorem zMO {e:List Value} (h:Blk w b T e) (cs:List Value):Upd b w (World.setBlk w b T cs) :=
 ⟨rfl,rfl,rfl,by simp [World.setBlk],fun k A=>by simp [World.setBlk,eH A],fun T' cs' h'=>by rw [<- (h.inj h').1];exact ⟨cs,zGy T cs h.lt⟩⟩
theorem setCell_blk {o:Nat} (h:Blk w b T cs) (v:Value):w.setCell ⟨b,o,none⟩ v=World.setBlk w b T (cs.set o v):=by
 unfold Blk at h;have e:=(fj.1 h).1;have hb:w.heap[b] = .cells ⟨cs⟩ T (0,0):=(fj.1 h).2;simp only [World.setCell,World.setBlk];congr 1;apply Array.ext_getElem?;intro k;by_cases hk:b=k
 . subst hk;rw [Array.getElem?_modify,cD rfl,h];simp [e]
 . rw [Array.getElem?_modify,ct hk];simp [hk]
theorem setBlk_setBlk (w:World) (b:Nat) (T T':TypeId) (cs cs':List Value):World.setBlk (World.setBlk w b T cs) b T' cs'=World.setBlk w b T' cs':=by
 simp [World.setBlk]
def zBr (cs:List Value) (o:Nat):List Value->List Value
 | []=>cs
 | v :: e=>zBr (cs.set o v) (o+1) e
theorem zAu:∀ (e cs:List Value) (o:Nat),(zBr cs o e).length=cs.length
 | [],_,_=>rfl
 | v :: e,cs,o=>by simp [zBr,zAu e]
def zDT:Value->Bool | .agg _ | .tuple _=>false | _=>true
theorem run_store_blk {o:Nat} (h:Blk w b T cs) (A:o<cs.length) (B:zDT v=true) :
 (store ⟨b,o,none⟩ v).run P w = .ok () (World.setBlk w b T (cs.set o v)):=by
 have C:w.cell? ⟨b,o,none⟩=some cs[o]:=by rw [h.cell];simp [A]
 have F:w.frozen? ⟨b,o,none⟩=false:=by unfold Blk at h;simp [World.frozen?,h]
 have e:v.oneCell'=true:=by cases v<;>first | rfl | (simp [zDT] at B)
 rw [run_store P w _ v .plain e,C];simp only [F,ew,fY];rw [setCell_blk h]
theorem zAm (b o i:Nat):(⟨b,o,none⟩:Addr).add i=⟨b,o+i,none⟩:=by
 unfold Addr.add;split
 . rename_i h;subst h;rfl
 . rfl
theorem zDV {P:Program} {b o:Nat} {T:TypeId}:∀ (e:List Value) (i:Nat) (w:World) (cs:List Value),Blk w b T cs->o+i+e.length<=cs.length->e.all zDT=true ->
 (storeCells ⟨b,o,none⟩ e i).run P w = .ok () (if e=[] then w else World.setBlk w b T (zBr cs (o+i) e))
 | [],i,w,cs,_,_,_=>by simp [storeCells]
 | v :: e,i,w,cs,h,B,A=>by
  simp only [List.all_cons,ee] at A;simp only [et] at B;have C:Blk (World.setBlk w b T (cs.set (o+i) v)) b T (cs.set (o+i) v):=zGy _ _ h.lt;have ih:=zDV (P:=P) (o:=o) e (i+1) _ _ C (by simp;omega) A.2;simp only [storeCells,Sem.run_bind,zAm,run_store_blk h (oM:o+i<cs.length) A.1,Result.andThen_ok,ih,reduceCtorEq,fY];cases e with
  | nil=>simp [zBr]
  | cons G F=>simp only [reduceCtorEq,fY,setBlk_setBlk,zBr];rfl
def Plain (P:Program) (T:TypeId):Prop:=(match P.underlying T with | some (.struct _) | some (.array _ _)=>false | some _=>true | none=>false)=true/\(P.info? T).map (·.size)=some 1
def Aggr (P:Program) (T:TypeId) (n:Nat):Prop:=(match P.underlying T with | some (.struct _) | some (.array _ _)=>true | _=>false)=true/\(P.info? T).map (·.size)=some n
theorem Plain.isAgg (h:Plain P T) (w:World):(isAgg T).run P w = .ok false w:=by
 obtain ⟨h,_⟩:=h;cases hu:P.underlying T with
 | none=>simp [hu] at h
 | some d=>cases d<;>first | (simp [Go.isAgg,run_underlying hu];done) | (simp [hu] at h)
theorem Aggr.isAgg (h:Aggr P T n) (w:World):(isAgg T).run P w = .ok true w:=by
 obtain ⟨h,_⟩:=h;cases hu:P.underlying T with
 | none=>simp [hu] at h
 | some d=>cases d<;>first | (simp [Go.isAgg,run_underlying hu];done) | (simp [hu] at h)
theorem run_sizeOf' (h:(P.info? T).map (·.size)=some n) (w:World):(sizeOf T).run P w = .ok n w:=by
 cases e:P.info? T with
 | none=>simp [e] at h
 | some i=>simp [e] at h;simp [sizeOf,typeInfo,e,h]
theorem run_loadVar_plain (h:Plain P T) {o:Nat} (e:Blk w b T' cs) (A:cs[o]? = some v) :
 (loadVar T ⟨b,o,none⟩).run P w = .ok v w:=by
 simp [loadVar,h.isAgg,e.cell,A]
theorem zCx (h:Aggr P T n) {o:Nat} (C:Blk w b T' cs) (F:o+n<=cs.length) :
 (loadVar T ⟨b,o,none⟩).run P w = .ok (.agg ((cs.drop o).take n).toArray) w:=by
 have B:=run_loadCells_list (P:=P) w ⟨b,o,none⟩ ((cs.drop o).take n) (fun j v e=>by
  rw [zAm,C.cell];rw [fk] at e;split at e
  . rw [fN] at e;exact e
  . cases e)
 have A:((cs.drop o).take n).length=n:=by simp;omega
 rw [A] at B;simp [loadVar,h.isAgg,run_sizeOf' h.2,B]
theorem run_storeVar_blk (h:(P.info? T).map (·.size)=some n) {o:Nat} (B:Blk w b T' cs) 
 (C:v.cells.size=n) (H:o+n<=cs.length) (G:0<n) (F:v.cells.toList.all zDT=true) :
 (storeVar T ⟨b,o,none⟩ v).run P w = .ok () (World.setBlk w b T' (zBr cs o v.cells.toList)):=by
 have A:v.cells.toList≠[]:=fun e=>by
  have I:v.cells.size=0:=by rw [<- Array.length_toList,e];rfl
  omega
 have:=zDV (P:=P) (b:=b) (o:=o) v.cells.toList 0 w cs B (by simp;omega) F;rw [ct A] at this;simp [storeVar,run_sizeOf' h,C,this]
section laws
variable {K:Value->World->Prop} {d:Option Tmp}
def CallK (P:Program) (f:FuncId) (args:Array Value) (w:World) (K:Value->World->Prop):Prop :=
 Calls P f args w (fun e w'=>∃ v,e = .returned v/\K v w')
theorem CallK.of_ret (h:Ret P f args w Φ) (A:∀ v w',Ext w w'->Φ v w'->K v w'):CallK P f args w K :=
 Calls.mono h fun _ _ ⟨v,e,B,C⟩=>⟨v,e,A v _ B C⟩
theorem zy {o:Oper} (e:∀ c,o.op≠.defer c) (h:(execOp σ o).run P w = .ok (.value v) w) (A:K v w):Runs P r o σ w K:=by
 unfold Runs;rw [zDJ e,h];exact A
theorem zBp {o:Oper} (e:∀ c,o.op≠.defer c) (h:(execOp σ o).run P w = .ok (.value v) w') (A:K v w'):Runs P r o σ w K:=by
 unfold Runs;rw [zDJ e,h];exact A
theorem runs_skipW {o:Oper} (e:∀ c,o.op≠.defer c) (h:(execOp σ o).run P w = .ok .skip w') (A:K undef w'):Runs P r o σ w K:=by
 unfold Runs;rw [zDJ e,h];exact A
theorem zAH {x:Operand} (h:K (σ x) w):Runs P r ⟨d,.move x,ty,pos,af,g⟩ σ w K :=
 zy (fun _ e=>by cases e) rfl h
theorem zr {x:Operand} (h:K (σ x) w):Runs P r ⟨d,.assign x,ty,pos,af,g⟩ σ w K :=
 zy (fun _ e=>by cases e) rfl h
theorem zAB {c x y:Operand} {b:Bool} (h:σ c = .bool b) (A:K (if b then σ x else σ y) w):Runs P r ⟨d,.pick c x y,ty,pos,af,g⟩ σ w K :=
 zy (fun _ e=>by cases e) (by simp only [execOp,h];cases b<;>rfl) A
theorem zCd {t:Operand} {h:Array Value} (A:σ t = .tuple h) (B:h[i]? = some v) (C:K v w):Runs P r ⟨d,.extract t i,ty,pos,af,g⟩ σ w K :=
 zy (fun _ e=>by cases e) (by simp [execOp,Instr.extract,A,B]) C
theorem zCj {fn:Fn} {a b:Array Operand} (h:K (.func fn (a.toList.map σ).toArray (b.toList.map σ).toArray) w):Runs P r ⟨d,.makeFunc fn a b,ty,pos,af,g⟩ σ w K :=
 zy (v := .func fn (a.toList.map σ).toArray (b.toList.map σ).toArray) (fun _ e=>by cases e) (by rw [amap,amap];rfl) h
theorem zp {t:TypeId} {x:Operand} {b:Bool} (h:σ x = .bool b) (A:K (.bool !b) w):Runs P r ⟨d,.unOp .not t x,ty,pos,af,g⟩ σ w K :=
 zy (fun _ e=>by cases e) (by simp [execOp,Op.unary,h]) A
theorem zEQ {t:TypeId} {x:Operand} {k:IntKind} {n:Int} (h:σ x = .int k n) (A:K (.int k (k.wrap (0-n))) w):Runs P r ⟨d,.unOp .neg t x,ty,pos,af,g⟩ σ w K :=
 zy (fun _ e=>by cases e) (by simp [execOp,Op.unary,Op.intArith,h]) A
def ibin:BinOp->IntKind->Int->Int->Option Value
 | .add,k,a,b=>some (.int k (k.wrap (a+b)))
 | .sub,k,a,b=>some (.int k (k.wrap (a-b)))
 | .mul,k,a,b=>some (.int k (k.wrap (a*b)))
 | .eql,_,a,b=>some (.bool (a==b))
 | .neq,_,a,b=>some (.bool (a != b))
 | .lss,_,a,b=>some (.bool (a<b))
 | .leq,_,a,b=>some (.bool (a<=b))
 | .gtr,_,a,b=>some (.bool (a>b))
 | .geq,_,a,b=>some (.bool (a≥b))
 | .and,k,a,b=>some (.int k (bits .and k a b))
 | .or,k,a,b=>some (.int k (bits .or k a b))
 | .xor,k,a,b=>some (.int k (bits .xor k a b))
 | _,_,_,_=>none
theorem zC {op:BinOp} {t:TypeId} {x y:Operand} {k:IntKind} {a b:Int} (A:σ x = .int k a) (B:σ y = .int k b) (h:ibin op k a b=some v) (C:K v w):Runs P r ⟨d,.binOp op t x y t',ty,pos,af,g⟩ σ w K:=by
 refine zy (fun _ e=>by cases e) ?_ C;have hg:eqGuard op t x y (.int k a) (.int k b)=pure ():=by cases op<;>rfl
 simp only [execOp,A,B,hg];cases op<;>simp only [ibin,reduceCtorEq,Option.some.injEq] at h<;>subst h<;>simp [binOp,Op.intArith,Op.intCmp,Op.intBits,bits]
theorem zCI {t:TypeId} {x y:Operand} {k:IntKind} {a b:Int} (h:σ x = .int k a) (A:σ y = .int k b) (B:b≠0) (C:K (.int k (k.wrap (a.tdiv b))) w):Runs P r ⟨d,.binOp .quo t x y t',ty,pos,af,g⟩ σ w K:=by
 refine zy (fun _ e=>by cases e) ?_ C;have hg:eqGuard .quo t x y (.int k a) (.int k b)=pure ():=rfl;simp [execOp,h,A,hg,binOp,Op.intDiv,B]
theorem zJt {t:TypeId} {x y:Operand} {k:IntKind} {a b:Int} (h:σ x = .int k a) (A:σ y = .int k b) (B:b≠0) (C:K (.int k (a.tmod b)) w):Runs P r ⟨d,.binOp .rem t x y t',ty,pos,af,g⟩ σ w K:=by
 refine zy (fun _ e=>by cases e) ?_ C;have hg:eqGuard .rem t x y (.int k a) (.int k b)=pure ():=rfl;simp [execOp,h,A,hg,binOp,Op.intDiv,B]
theorem zRT {t:TypeId} {x y:Operand} {k:IntKind} {a b:Int} (h:σ x = .int k a) (A:σ y = .int k' b) (C:0<=b) (B:K (.int k (k.wrap (a*2^(min b.toNat k.bits)))) w):Runs P r ⟨d,.binOp .shl t x y t',ty,pos,af,g⟩ σ w K:=by
 refine zy (fun _ e=>by cases e) ?_ B;have hg:eqGuard .shl t x y (.int k a) (.int k' b)=pure ():=rfl;have hb':¬ b<0:=oM
 simp [execOp,h,A,hg,binOp,Op.shift,hb']
theorem runs_shr {t:TypeId} {x y:Operand} {k:IntKind} {a b:Int} (h:σ x = .int k a) (A:σ y = .int k' b) (C:0<=b) (B:K (.int k (a.fdiv (2^(min b.toNat k.bits)))) w):Runs P r ⟨d,.binOp .shr t x y t',ty,pos,af,g⟩ σ w K:=by
 refine zy (fun _ e=>by cases e) ?_ B;have hg:eqGuard .shr t x y (.int k a) (.int k' b)=pure ():=rfl;have hb':¬ b<0:=oM
 simp [execOp,h,A,hg,binOp,Op.shift,hb']
theorem zR {z:Value} (h:((P.info? T).bind (·.zero))=some z)
 (C:∀ b w',b=w.heap.size->Ext w w'->Blk w' b T z.cells.toList->w'.heap.size=b+1->K (.pointer (some ⟨b,0,none⟩)) w'):Runs P r ⟨d,.alloc T,ty,pos,af,g⟩ σ w K:=by
 refine zBp (fun _ e=>by cases e) (v := .pointer (some ⟨w.heap.size,0,none⟩)) (w':={ w with heap:=w.heap.push (.cells z.cells T) }) ?_ ?_
 . cases A:P.info? T with
   | none=>simp [A] at h
   | some i=>simp [A] at h;simp [execOp,Instr.alloc,zeroValue,typeInfo,A,h,newVar,newRow]
 . refine C _ _ rfl (Ext.push _) ?_ sM;simp [Blk]
theorem zn {x:Operand}
 (A:∀ b w',b=w.heap.size->Ext w w'->Blk w' b T (σ x).cells.toList->w'.heap.size=b+1->K (.pointer (some ⟨b,0,none⟩)) w'):Runs P r ⟨d,.box T x,ty,pos,af,g⟩ σ w K:=by
 refine zBp (fun _ e=>by cases e) (v := .pointer (some ⟨w.heap.size,0,none⟩)) (w':={ w with heap:=w.heap.push (.cells (σ x).cells T) }) ?_ ?_
 . simp [execOp,Instr.box,newVar,newRow]
 . refine A _ _ rfl (Ext.push _) ?_ sM;simp [Blk]
theorem zD {x:Operand} {o:Nat} (h:Plain P T) (A:σ x = .pointer (some ⟨b,o,none⟩)) (B:Blk w b T' cs) (C:cs[o]? = some v) (F:K v w) :
 Runs P r ⟨d,.load T x,ty,pos,af,g⟩ σ w K :=
 zy (fun _ e=>by cases e) (by simp [execOp,Instr.loadAt,Instr.sureAddr,A,run_loadVar_plain h B C]) F
theorem zh {x:Operand} {o:Nat} (h:Aggr P T n) (A:σ x = .pointer (some ⟨b,o,none⟩)) (B:Blk w b T' cs) (C:o+n<=cs.length) (F:K (.agg ((cs.drop o).take n).toArray) w) :
 Runs P r ⟨d,.load T x,ty,pos,af,g⟩ σ w K :=
 zy (fun _ e=>by cases e) (by simp [execOp,Instr.loadAt,Instr.sureAddr,A,zCx h B C]) F
theorem zc {x y:Operand} {o:Nat} (B:(P.info? T).map (·.size)=some n) (C:σ x = .pointer (some ⟨b,o,none⟩)) (h:Blk w b T' cs)
 (F:(σ y).cells.size=n) (G:o+n<=cs.length) (A:0<n) (H:(σ y).cells.toList.all zDT=true)
 (I:∀ w',Upd b w w'->Blk w' b T' (zBr cs o (σ y).cells.toList)->K undef w'):Runs P r ⟨d,.store T x y,ty,pos,af,g⟩ σ w K:=by
 refine runs_skipW (fun _ e=>by cases e) (w':=World.setBlk w b T' (zBr cs o (σ y).cells.toList)) ?_ (I _ (zMO h _) (zGy _ _ h.lt));simp [execOp,Instr.storeAt,Instr.sureAddr,C,run_storeVar_blk B h F G A H]
def zAG (P:Program) (S f e:Nat):Prop :=
 (match P.underlying S with | some (.struct h)=>(match h[f]? with | some fd=>decide (fd.offset=e)&&(match P.info? fd.type with | some i=>decide (i.size≠0) | none=>false) | none=>false) | _=>false)=true
theorem zB {S f A:Nat} {x:Operand} {o:Nat} (h:zAG P S f A) (C:σ x = .pointer (some ⟨b,o,none⟩)) (F:K (.pointer (some ⟨b,o+A,none⟩)) w) :
 Runs P r ⟨d,.fieldAddr S x f,ty,pos,af,g⟩ σ w K:=by
 refine zy (fun _ e=>by cases e) ?_ F;unfold zAG at h;cases hu:P.underlying S with
 | none=>simp [hu] at h
 | some ds =>
  cases ds<;>try (simp [hu] at h;done)
  rename_i G;cases hfd:G[f]? with
  | none=>simp [hu,hfd] at h
  | some fd =>
   cases B:P.info? fd.type with
   | none=>simp [hu,hfd,B] at h
   | some i =>
    simp [hu,hfd,B] at h;obtain ⟨H,I⟩:=h;simp [execOp,Instr.fieldAt,run_underlying hu,hfd,C,Instr.sureAddr,fieldPlace,sizeOf,typeInfo,B,I,zAm,H]
def zBH (P:Program) (T E n:Nat):Prop:=P.underlying T=some (.slice E)/\(P.info? E).map (·.size)=some n
theorem zH {T:Nat} {x i:Operand} {o:Nat} {k:IntKind} {ix:Int} (h:zBH P T E n) (A:σ x = .slice (some ⟨b,o,none⟩) len cap) (B:σ i = .int k ix) (C:0<=ix) (F:ix<len)
 (G:K (.pointer (some ⟨b,o+ix.toNat*n,none⟩)) w):Runs P r ⟨d,.indexAddr T x i,ty,pos,af,g⟩ σ w K:=by
 refine zy (fun _ e=>by cases e) ?_ G;simp [execOp,Instr.indexAt,run_underlying h.1,A,B,asIntOf,C,F,run_sizeOf' h.2,zAm]
theorem zG {T:Nat} {x:Operand} {p:Option Addr} (B:zBH P T E n) (C:σ x = .slice p len cap) (F:K (.int .i64 len) w) :
 Runs P r ⟨d,.call { callee := .builtin .len,args := #[x],argTypes := #[T] },ty,pos,af,g⟩ σ w K:=by
 refine zy (fun _ e=>by cases e) ?_ F;simp [execOp,resolve,C,invoke,builtin,Builtin.len_,run_underlying B.1,goInt]
theorem runs_lenString {T:Nat} {x:Operand} {s:ByteArray} (B:P.underlying T=some .string) (C:σ x = .string s) (F:K (.int .i64 s.size) w) :
 Runs P r ⟨d,.call { callee := .builtin .len,args := #[x],argTypes := #[T] },ty,pos,af,g⟩ σ w K:=by
 refine zy (fun _ e=>by cases e) ?_ F;simp [execOp,resolve,C,invoke,builtin,Builtin.len_,run_underlying B,goInt]
theorem zCl {k:IntKind} {i:Int} {y:Nat} {code:BoundsCode} (e:0<=i) (h:i<=y) (w:World):(Instr.sliceBound (.int k i) y code).run P w = .ok i.toNat w:=by
 simp [Instr.sliceBound,asIntOf,e,h]
theorem zBa {T:Nat} {x A:Operand} {p:Option Addr} {k:IntKind} {h:Int} (B:zBH P T E n) (C:σ x = .slice p len cap) (F:σ A = .int k h) (G:0<=h) (H:h<=cap)
 (I:K (.slice p h.toNat cap) w):Runs P r ⟨d,.slice T x none (some A) none,ty,pos,af,g⟩ σ w K:=by
 refine zy (fun _ e=>by cases e) ?_ I;have ha:(if cap=0 then p else p.map (fun a=>a.add (0*n)))=p:=by
  split
  . rfl
  . cases p with
    | none=>rfl
    | some a=>simp [Addr.add]
 simp only [execOp,Instr.sliceAt,Option.map_none,Option.map_some,C,F];simp only [Sem.run_bind,run_underlying B.1,Result.andThen_ok,Instr.slice,Instr.sliceBounds,Sem.run_pure,zCl G H,run_sizeOf' B.2];simp only [ha,Nat.sub_zero]
theorem zEv {T:Nat} {x h:Operand} {p:Option Addr} {k:IntKind} {l:Int} (A:zBH P T E n) (B:σ x = .slice p len cap) (C:σ h = .int k l) (F:0<=l) (G:l<=len)
 (H:K (.slice (if cap=l.toNat then p else p.map (fun a=>a.add (l.toNat*n))) (len-l.toNat) (cap-l.toNat)) w):Runs P r ⟨d,.slice T x (some h) none none,ty,pos,af,g⟩ σ w K:=by
 refine zy (fun _ e=>by cases e) ?_ H;simp only [execOp,Instr.sliceAt,Option.map_none,Option.map_some,B,C];simp only [Sem.run_bind,run_underlying A.1,Result.andThen_ok,Instr.slice,Instr.sliceBounds,Sem.run_pure,zCl F G,run_sizeOf' A.2]
theorem zHI {T:Nat} {x A B:Operand} {p:Option Addr} {k:IntKind} {l h:Int} (C:zBH P T E n) (F:σ x = .slice p len cap) (G:σ A = .int k l) (H:σ B = .int k' h) (I:0<=l) (U:l<=h) (M:h<=cap)
 (O:K (.slice (if cap=l.toNat then p else p.map (fun a=>a.add (l.toNat*n))) (h.toNat-l.toNat) (cap-l.toNat)) w):Runs P r ⟨d,.slice T x (some A) (some B) none,ty,pos,af,g⟩ σ w K:=by
 refine zy (fun _ e=>by cases e) ?_ O;simp only [execOp,Instr.sliceAt,Option.map_none,Option.map_some,F,G,H];simp only [Sem.run_bind,run_underlying C.1,Result.andThen_ok,Instr.slice,Instr.sliceBounds,Sem.run_pure,zCl (oM:0<=h) M,zCl I (oM:l<=(h.toNat:Int)),run_sizeOf' C.2]
theorem zAK {T:Nat} {z:Value} {x y:Operand} {k:IntKind} {len:Int} (Y:P.underlying T=some (.slice E)) (G:(P.info? E).map (fun i=>(i.zero,i.size,i.bytes))=some (some z,n,bytes)) (C:z.cells.size=n)
 (Z:σ x = .int k len) (hy:σ y = .int k' len) (h0:0<=len) (h1:len<9223372036854775808) (h2:bytes*len<=281474976710656)
 (hk:∀ b w',b=w.heap.size->Ext w w'->Blk w' b E ((List.replicate len.toNat z.cells.toList).flatten)->w'.heap.size=b+1->K (.slice (some ⟨b,0,none⟩) len.toNat len.toNat) w'):Runs P r ⟨d,.makeSlice T x y,ty,pos,af,g⟩ σ w K:=by
 cases B:P.info? E with
 | none=>simp [B] at G
 | some U =>
  simp [B] at G;obtain ⟨e1,e2,V⟩:=G;have hw:IntKind.i64.wrap len=len:=by
   have:len%18446744073709551616=len:=oM
   simp [IntKind.wrap,IntKind.bits,IntKind.signed,this];omega
  have F:(if len.toNat*n=0 then (#[]:Array Value) else z.cells)=(if len.toNat*n=0 then #[] else z.cells):=rfl;have hflat:((Array.range (len.toNat*n)).map fun i=>((if len.toNat*n=0 then (#[]:Array Value) else z.cells)[i%(if len.toNat*n=0 then (#[]:Array Value) else z.cells).size]!))=⟨(List.replicate len.toNat z.cells.toList).flatten⟩:=by
   by_cases A:len.toNat*n=0
   . simp only [A,ga];rcases Nat.mul_eq_zero.1 A with h | h
     . simp [h]
     . have:z.cells.toList=[]:=by
        have:z.cells.toList.length=0:=by simp [C,h]
        exact ef this
       simp [this]
   . rw [ct A];apply Array.ext';simp only [Array.toList_map,Array.toList_range];have H:∀ (m:Nat) (l:List Value),0<l.length->(List.range (m*l.length)).map (fun i=>l[i%l.length]!)=(List.replicate m l).flatten:=by
      intro m l hl
      induction m with
      | zero=>simp
      | succ m ih =>
       rw [List.replicate_succ',List.flatten_append,<- ih,Nat.succ_mul,List.range_add,eK,iF];congr 1;simp only [gn,List.flatten_nil,fu];apply gw;intro j;simp only [fC];by_cases hj:j<l.length
       . simp [hj,fL hj]
       . simp [hj]
     have I:0<n:=by
      rcases fV n with h | h
      . simp [h] at A
      . exact h
     have:=H len.toNat z.cells.toList (by simpa [C] using I);simp only [Array.length_toList,C] at this;rw [<- this,C];apply List.map_congr_left;intro i _;simp [getElem!_def]
  refine zBp (fun _ e=>by cases e) (v := .slice (some ⟨w.heap.size,0,none⟩) len.toNat len.toNat) (w':={ w with heap:=w.heap.push (.cells ⟨(List.replicate len.toNat z.cells.toList).flatten⟩ E) }) ?_ ?_
  . have M:¬ len<0:=by omega
    have hb:¬ ((U.bytes:Int)*len>281474976710656):=by rw [V];omega
    simp only [execOp,Instr.makeSlice,Z,hy];simp [run_underlying Y,asInt,asIntOf,typeInfo,B,hw,M,sizeOf,e2];have O:¬ 281474976710656<(U.bytes:Int)*len:=by rw [V];omega
    rw [ct O,<- hflat];by_cases A:len.toNat*n=0
    . rw [cD A];simp [A,newRow]
    . rw [ct A];simp [A,zeroValue,typeInfo,B,e1,newRow]
  . refine hk _ _ rfl (Ext.push _) ?_ sM;simp [Blk]
theorem zi {T:Nat} {z:Value} {parts:Array (Nat×Operand)} (G:P.underlying T=some (.slice E)) (A:(P.info? E).map (fun i=>(i.zero,i.size))=some (some z,n)) (V:len*n<=16777216) (H:len*n≠0)
 (C:Instr.fill (fun i=>some (i*n,n)) ((Array.range (len*n)).map (fun i=>z.cells[i%z.cells.size]!)) (parts.toList.map fun (i,x)=>(i,σ x))=some ⟨cs⟩)
 (I:∀ b w',b=w.heap.size->Ext w w'->Blk w' b E cs->w'.heap.size=b+1->K (.slice (some ⟨b,0,none⟩) len len) w'):Runs P r ⟨d,.buildSlice T len parts,ty,pos,af,g⟩ σ w K:=by
 cases h:P.info? E with
 | none=>simp [h] at A
 | some X =>
  simp [h] at A;obtain ⟨M,O⟩:=A;refine zBp (fun _ e=>by cases e) (v := .slice (some ⟨w.heap.size,0,none⟩) len len) (w':={ w with heap:=w.heap.push (.cells ⟨cs⟩ E) }) ?_ ?_
  . have B:¬ (16777216<len*n):=by omega
    have U:(parts.toList.map fun (i,x)=>(i,σ x))=(parts.map fun (i,x)=>(i,σ x)).toList:=sM
    rw [U] at C;simp only [execOp,Instr.buildSlice];simp only [Sem.run_bind,run_underlying G,Result.andThen_ok,sizeOf,typeInfo,run_program,h,Sem.run_pure,O];simp only [Nat.reducePow,gt_iff_lt,ct B,ct H,zeroValue,typeInfo,Sem.run_bind,run_program,Result.andThen_ok,h,Sem.run_pure,M,C,newRow,run_newObj]
  . refine I _ _ rfl (Ext.push _) ?_ sM;simp [Blk]
theorem zV {T:Nat} {parts:Array (Nat×Operand)} {cs:Array Value} (h:P.built T (parts.toList.map fun (i,x)=>(i,σ x))=some cs) (A:K (.agg cs) w):Runs P r ⟨d,.build T parts,ty,pos,af,g⟩ σ w K:=by
 refine zy (fun _ e=>by cases e) ?_ A;have ha:(parts.toList.map fun (i,x)=>(i,σ x))=(parts.map fun (i,x)=>(i,σ x)).toList:=sM
 rw [ha] at h;simp only [execOp];simp only [Sem.run_bind,run_build w T _ cs h,Result.andThen_ok,Sem.run_pure]
def zBA (P:Program) (f:FuncId):Prop:=∀ args w,(callFunc f args).run P w = .ok (.enter f args) w
theorem zJ {args:Array Operand} (F:zBA P f) (C:CallK P f (args.toList.map σ).toArray w K) (B:σ (.func f) = .func (.func f) #[] #[]) :
 Runs P r ⟨d,.call { callee := .value (.func f),args:=args,argTypes:=ts },ty,pos,af,g⟩ σ w K:=by
 unfold Runs;rw [zDJ (fun _ e=>by cases e)];have:(execOp σ ⟨d,.call { callee := .value (.func f),args:=args,argTypes:=ts },ty,pos,af,g⟩).run P w = .ok (.enter f (args.map σ)) w:=by
  simp only [execOp,resolve,B,Deferred.ofValue];simp [invoke,F (args.map σ) w]
 rw [this];have G:(args.toList.map σ).toArray=args.map σ:=amap _ _;rw [G] at C;exact C
theorem zCi {x:Operand} {first cap:Array Value} {args:Array Operand} (C:σ x = .func (.func f) first cap) (F:zBA P f) (B:CallK P f (first.toList++args.toList.map σ++cap.toList).toArray w K) :
 Runs P r ⟨d,.call { callee := .value x,args:=args,argTypes:=ts },ty,pos,af,g⟩ σ w K:=by
 unfold Runs;rw [zDJ (fun _ e=>by cases e)];have:(execOp σ ⟨d,.call { callee := .value x,args:=args,argTypes:=ts },ty,pos,af,g⟩).run P w = .ok (.enter f (first++args.map σ++cap)) w:=by
  simp only [execOp,resolve,C,Deferred.ofValue];simp only [Sem.run_bind,Sem.run_pure,Result.andThen_ok,invoke];exact F _ _
 rw [this];have G:(first.toList++args.toList.map σ++cap.toList).toArray=first++args.map σ++cap:=sM
 rw [G] at B;exact B
theorem zIr {args:Array Operand} (C:(callFunc f (args.toList.map σ).toArray).run P w = .ok (.value v) w) (B:σ (.func f) = .func (.func f) #[] #[]) (F:K v w) :
 Runs P r ⟨d,.call { callee := .value (.func f),args:=args,argTypes:=ts },ty,pos,af,g⟩ σ w K:=by
 refine zy (fun _ e=>by cases e) ?_ F;have ha:(args.toList.map σ).toArray=args.map σ:=amap _ _;rw [ha] at C;simp only [execOp,resolve,B,Deferred.ofValue];simp [invoke,C]
theorem runs_callEV {x:Operand} {args:Array Operand} (C:σ x = .func (.func f) #[] #[]) (B:(callFunc f (args.toList.map σ).toArray).run P w = .ok (.value v) w) (F:K v w) :
 Runs P r ⟨d,.call { callee := .value x,args:=args,argTypes:=ts },ty,pos,af,g⟩ σ w K:=by
 refine zy (fun _ e=>by cases e) ?_ F;have ha:(args.toList.map σ).toArray=args.map σ:=amap _ _;rw [ha] at B;simp only [execOp,resolve,C,Deferred.ofValue];simp [invoke,B]
end laws
section steps
variable {o:Oper} {ρ:Env} {K:Env->World->Prop}
theorem sr (e:g=none) (h:Runs P r ⟨dst,op,ty,pos,af,g⟩ (look ρ) w (fun v w'=>zAX P r ops os (ext ρ dst v) w' K)):zAX P r ops (⟨dst,op,ty,pos,af,g⟩ :: os) ρ w K:=by
 unfold zAX;rw [cD (by simp [zEo,e])];exact h
theorem sr_g (e:zEo ops ⟨dst,op,ty,pos,af,g⟩ ρ=true) (h:Runs P r ⟨dst,op,ty,pos,af,g⟩ (look ρ) w (fun v w'=>zAX P r ops os (ext ρ dst v) w' K)):zAX P r ops (⟨dst,op,ty,pos,af,g⟩ :: os) ρ w K:=by
 unfold zAX;rw [cD e];exact h
theorem zCq (e:zEo ops ⟨dst,op,ty,pos,af,g⟩ ρ=false) (h:zAX P r ops os (ext ρ dst undef) w K):zAX P r ops (⟨dst,op,ty,pos,af,g⟩ :: os) ρ w K:=by
 unfold zAX;rw [ct (by simp [e])];exact h
theorem zAh (h:K ρ w):zAX P r ops [] ρ w K:=h
def Keep (ρ:Env):Env->Prop
 | []=>True
 | (t,v) :: ρ'=>(dom ρ).contains t=true/\look1 ρ t=v/\Keep ρ ρ'
theorem zOW {ρ:Env}:∀ {ρ':Env},Keep ρ ρ'->∀ t∈dom ρ',t∈dom ρ/\look1 ρ' t=look1 ρ t
 | [],_,t,h=>by simp [dom] at h
 | (t',v) :: ρ',⟨A,B,C⟩,t,h=>by
  simp only [look1];by_cases e:t=t'
  . subst e;exact ⟨by simpa using A,by rw [cD rfl,B]⟩
  . rw [ct e];refine zOW C t ?_;simp only [dom,fi,eY] at h;exact h.resolve_left e
theorem wpe_k {c:Code} {Q:Post} (ρ':Env) (e:Keep ρ ρ') (h:WPE P r N c Q δ ρ' w):WPE P r N c Q δ ρ w :=
 zRq ρ' (zOW e) h
end steps
theorem wpe_ite {Q:Post} {ρ:Env} {c:Operand} {x y:Code} {b:Bool} (e:(match c with | .tmp t=>(dom ρ).contains t | _=>true)=true) (h:look ρ c = .bool b)
 (A:b=true->WPE P r N x Q δ ρ w) (B:b=false->WPE P r N y Q δ ρ w):WPE P r N (.cond c x y) Q δ ρ w:=by
 cases b
 . exact zJx false e h (B rfl)
 . exact zJx true e h (A rfl)
theorem zGc {Q:Post} {ρ:Env} (e:okReg N ops ρ=true)
 (h:∀ K:Env->World->Prop,(∀ ρ' w',Q .normal ρ' δ w'->K ρ' w')->zAX P r ops ops ρ w K):WPE P r N (.region id ops.toArray false) Q δ ρ w :=
 zMU e (h _ fun _ _ h=>h)
theorem zBZ {Q:Post} {ρ:Env} {x y:Code} (M:Env->World->Prop)
 (B:WPE P r N x (loopQ δ M Q) δ ρ w) (C:∀ ρ w,M ρ w->WPE P r N y Q δ ρ w):WPE P r N (.seq x y) Q δ ρ w :=
 zA (wpe_mono B fun e ρ G w h=>by
  cases e with
  | normal=>obtain ⟨rfl,F⟩:=h;exact C _ _ F
  | _=>exact h)
def prune (e:List Nat) (ρ:Env):Env:=e.map fun t=>(t,look1 ρ t)
theorem zKi (ρ:Env) {t:Nat}:∀ A:List Nat,t∈A->look1 (prune A ρ) t=look1 ρ t
 | [],h=>by cases h
 | u :: A,h=>by
  have B:=zKi ρ (t:=t) A;simp only [prune,fi,look1] at B ⊢;by_cases e:t=u
  . subst e;rw [cD rfl]
  . rw [ct e];exact B ((eY.1 h).resolve_left e)
theorem zFf {c:Code} {Q:Post} {ρ:Env} (e:List Nat) {ρ':Env} (C:e.all (fun t=>(dom ρ).contains t)=true) (he:prune e ρ=ρ') (h:WPE P r N c Q δ ρ' w):WPE P r N c Q δ ρ w:=by
 subst he;refine zRq _ (fun t B => ?_) h;have A:t∈e:=by
  simp only [prune,dom,iF,gI,Function.comp] at B;obtain ⟨u,F,rfl⟩:=B;exact F
 have G:=eZ.1 C t A;exact ⟨by simpa using G,zKi ρ e A⟩
theorem CallK.mono {K:Value->World->Prop} (h:CallK P f args w K) (A:∀ v w',K v w'->K' v w'):CallK P f args w K' :=
 Calls.mono h fun _ _ ⟨v,e,B⟩=>⟨v,e,A v _ B⟩
theorem zDx {c:Code} (N:Nat)
 (M:P.funcs[f]? = some fn) (O:fn.body=some c) (U:fn.ntmps=N) (A:args.size<=N)
 (h:WPE P none N c (funQ fun ρ δ w'=>δ=[]/\∃ v,Gives P fn N ρ w' v/\Φ v w') [] (args0 0 args.toList) w):CallK P f args w Φ:=by
 subst U;refine callsW' (r:=none) (n:=0) (callsIn_of_wp M O trivial ?_);refine wpIn_mono (h _ (zJj fn args A) rfl) ?_;rintro e a w' ⟨ρ,B,F⟩;cases e with
 | normal=>obtain ⟨G,v,H,I⟩:=F;exact ⟨G,v,H a B,v,rfl,I⟩
 | ret=>obtain ⟨G,v,H,I⟩:=F;exact ⟨G,v,H a B,v,rfl,I⟩
 | _=>exact F.elim
theorem Upd.refl (b:Nat) (w:World):Upd b w w:=⟨rfl,rfl,rfl,rfl,fun _ _=>rfl,fun _ cs h=>⟨cs,h⟩⟩
theorem Upd.trans {e:World} (h:Upd b w w') (k:Upd b w' e):Upd b w e :=
 ⟨k.os.trans h.os,k.tape.trans h.tape,k.output.trans h.output,k.size.trans h.size,fun j A=>(k.block j A).trans (h.block j A),fun T cs hb=>by
  obtain ⟨cs',B⟩:=h.kind T cs hb;exact k.kind T cs' B⟩
def okC (ρ:Env) (c:Operand):Prop:=(match c with | .tmp t=>(dom ρ).contains t | _=>true)=true
section
variable {P:Program} {r:Option Nat} {N:Nat} {Q:Post} {δ:List Deferred} {ρ:Env} {w:World} {ops os:List Oper} {K:Env->World->Prop} {y:Code} {id:Nat} {dst:Option Tmp} {x:Operand} {op:Op} {ty:TypeId} {pos:String} {af:Array Edge} {g:Option (Nat×Bool)}
theorem mv (h:zAX P r ops os (ext ρ dst (look ρ x)) w K):zAX P r ops (⟨dst,.move x,ty,pos,af,none⟩ :: os) ρ w K:=sr rfl (zAH h)
theorem ag (h:zAX P r ops os (ext ρ dst (look ρ x)) w K):zAX P r ops (⟨dst,.assign x,ty,pos,af,none⟩ :: os) ρ w K:=sr rfl (zr h)
theorem K1 (h:Runs P r ⟨dst,op,ty,pos,af,none⟩ (look ρ) w (fun v w'=>zAX P r ops os (ext ρ dst v) w' K)):zAX P r ops (⟨dst,op,ty,pos,af,none⟩ :: os) ρ w K:=sr rfl h
theorem K2 (h:Runs P r ⟨dst,op,ty,pos,af,g⟩ (look ρ) w (fun v w'=>zAX P r ops os (ext ρ dst v) w' K)) (e:zEo ops ⟨dst,op,ty,pos,af,g⟩ ρ=true:=by rfl):zAX P r ops (⟨dst,op,ty,pos,af,g⟩ :: os) ρ w K:=sr_g e h
theorem K3 (h:zAX P r ops os (ext ρ dst undef) w K) (e:zEo ops ⟨dst,op,ty,pos,af,g⟩ ρ=false:=by rfl):zAX P r ops (⟨dst,op,ty,pos,af,g⟩ :: os) ρ w K:=zCq e h
theorem rk (h:∀ K:Env->World->Prop,(∀ ρ' w',WPE P r N y Q δ ρ' w'->K ρ' w')->zAX P r ops ops ρ w K) (e:okReg N ops ρ=true:=by rfl):WPE P r N (.seq (.region id ops.toArray false) y) Q δ ρ w:=zFG e h
theorem K4 (h:∀ K:Env->World->Prop,(∀ ρ' w',Q .normal ρ' δ w'->K ρ' w')->zAX P r ops ops ρ w K) (e:okReg N ops ρ=true:=by rfl):WPE P r N (.region id ops.toArray false) Q δ ρ w:=zGc e h
theorem K5 (e:List Nat) {ρ':Env} (h:WPE P r N y Q δ ρ' w) (A:e.all (fun t=>(dom ρ).contains t)=true:=by rfl) (he:prune e ρ=ρ':=by simp only [prune,fi,il,look,look1,ext,Nat.reduceEqDiff,↓reduceIte,reduceCtorEq];exact rfl):WPE P r N y Q δ ρ w:=zFf e A he h
theorem rn (e:List Nat) {ρ':Env} (A:∀ ρ' w',WPE P r N y Q δ ρ' w'->K ρ' w') (h:WPE P r N y Q δ ρ' w) (B:e.all (fun t=>(dom ρ).contains t)=true:=by rfl) (he:prune e ρ=ρ':=by simp only [prune,fi,il,look,look1,ext,Nat.reduceEqDiff,↓reduceIte,reduceCtorEq];exact rfl):zAX P r ops [] ρ w K:=A _ _ (zFf e B he h)
theorem wct {c:Operand} {x y:Code} (e:look ρ c = .bool true) (h:WPE P r N x Q δ ρ w) (A:okC ρ c:=by exact rfl):WPE P r N (.cond c x y) Q δ ρ w:=zJx true A e h
theorem wcf {c:Operand} {x y:Code} (e:look ρ c = .bool false) (h:WPE P r N y Q δ ρ w) (A:okC ρ c:=by exact rfl):WPE P r N (.cond c x y) Q δ ρ w:=zJx false A e h
theorem rj (h:∀ {k:{K:Env->World->Prop // ∀ ρ' w',WPE P r N y Q δ ρ' w'->K ρ' w'}},zAX P r ops ops ρ w k.1) (e:okReg N ops ρ=true:=by rfl):WPE P r N (.seq (.region id ops.toArray false) y) Q δ ρ w:=zFG e fun K A=>h (k:=⟨K,A⟩)
theorem K6 (h:∀ {k:{K:Env->World->Prop // ∀ ρ' w',Q .normal ρ' δ w'->K ρ' w'}},zAX P r ops ops ρ w k.1) (e:okReg N ops ρ=true:=by rfl):WPE P r N (.region id ops.toArray false) Q δ ρ w:=zGc e fun K A=>h (k:=⟨K,A⟩)
theorem rm (e:List Nat) {ρ':Env} {k:{K:Env->World->Prop // ∀ ρ' w',WPE P r N y Q δ ρ' w'->K ρ' w'}} (h:WPE P r N y Q δ ρ' w) (A:e.all (fun t=>(dom ρ).contains t)=true:=by rfl) (he:prune e ρ=ρ':=by simp only [prune,fi,il,look,look1,ext,Nat.reduceEqDiff,↓reduceIte,reduceCtorEq];exact rfl):zAX P r ops [] ρ w k.1:=k.2 _ _ (zFf e A he h)
def bitsF:Nat->Nat->Nat->List Nat
  | 0,_,_=>[]
  | n+1,i,m=>if m=0 then [] else if m%2=1 then i :: bitsF n (i+1) (m/2) else bitsF n (i+1) (m/2)
theorem rM (m:Nat) {ρ':Env} {k:{K:Env->World->Prop // ∀ ρ' w',WPE P r N y Q δ ρ' w'->K ρ' w'}} (h:WPE P r N y Q δ ρ' w) (e:(bitsF 60 0 m).all (fun t=>(dom ρ).contains t)=true:=by rfl) (he:prune (bitsF 60 0 m) ρ=ρ':=by simp only [bitsF,Nat.reduceMod,Nat.reduceDiv,Nat.reduceAdd,prune,fi,il,look,look1,ext,Nat.reduceEqDiff,↓reduceIte,reduceCtorEq];exact rfl):zAX P r ops [] ρ w k.1:=k.2 _ _ (zFf _ e he h)
theorem rS (m:Nat) {ρ':Env} {J:Env->List Deferred->World->Prop} {k:{K:Env->World->Prop // ∀ ρ' w',seqQ J Q .normal ρ' δ w'->K ρ' w'}} (h:J ρ' δ w) (e:J=(fun ρ δ w=>WPE P r N y Q δ ρ w):=by rfl) (A:(bitsF 60 0 m).all (fun t=>(dom ρ).contains t)=true:=by rfl) (he:prune (bitsF 60 0 m) ρ=ρ':=by simp only [bitsF,Nat.reduceMod,Nat.reduceDiv,Nat.reduceAdd,prune,fi,il,look,look1,ext,Nat.reduceEqDiff,↓reduceIte,reduceCtorEq];exact rfl):zAX P r ops [] ρ w k.1:=k.2 _ _ (by subst e;exact zFf _ A he h)
theorem rl {A:Env->World->Prop} {k:{K:Env->World->Prop // ∀ ρ' w',A ρ' w'->K ρ' w'}} (h:A ρ w):zAX P r ops [] ρ w k.1:=k.2 _ _ h
theorem rs (e:List Nat) {ρ':Env} {J:Env->List Deferred->World->Prop} {k:{K:Env->World->Prop // ∀ ρ' w',seqQ J Q .normal ρ' δ w'->K ρ' w'}} (h:J ρ' δ w) (A:J=(fun ρ δ w=>WPE P r N y Q δ ρ w):=by rfl) (B:e.all (fun t=>(dom ρ).contains t)=true:=by rfl) (he:prune e ρ=ρ':=by simp only [prune,fi,il,look,look1,ext,Nat.reduceEqDiff,↓reduceIte,reduceCtorEq];exact rfl):zAX P r ops [] ρ w k.1:=k.2 _ _ (by subst A;exact zFf e B he h)
theorem sk {K:Env->List Deferred->World->Prop} (h:K ρ δ w):WPE P r N .skip (seqQ K Q) δ ρ w:=zw (zK h)
theorem K7 (h:zAX P r ops os (ext ρ dst (look ρ x)) w K) (e:zEo ops ⟨dst,.move x,ty,pos,af,g⟩ ρ=true:=by rfl):zAX P r ops (⟨dst,.move x,ty,pos,af,g⟩ :: os) ρ w K:=sr_g e (zAH h)
theorem pc0 {c x y:Operand} {b:Bool} (e:look ρ c = .bool b) (h:zAX P r ops os (ext ρ dst (if b then look ρ x else look ρ y)) w K):zAX P r ops (⟨dst,.pick c x y,ty,pos,af,none⟩ :: os) ρ w K:=sr rfl (zAB e h)
theorem xt {t:Operand} {i:Nat} {A:Array Value} {v:Value} (e:(look ρ t,A[i]?)=(.tuple A,some v)) (h:zAX P r ops os (ext ρ dst v) w K):zAX P r ops (⟨dst,.extract t i,ty,pos,af,none⟩ :: os) ρ w K:=sr rfl (zCd (gX e).1 (gX e).2 h)
theorem K8 {op:BinOp} {t t':TypeId} {x y:Operand} {k:IntKind} {a b:Int} {v:Value} (e:(look ρ x,look ρ y,ibin op k a b)=(Value.int k a,Value.int k b,some v)) (h:zAX P r ops os (ext ρ dst v) w K):zAX P r ops (⟨dst,.binOp op t x y t',ty,pos,af,none⟩ :: os) ρ w K:=sr rfl (zC (gX e).1 (gX (gX e).2).1 (gX (gX e).2).2 h)
theorem K9 {op:BinOp} {t t':TypeId} {x y:Operand} {k:IntKind} {a b:Int} {A:Bool} (z:Bool) (e:(look ρ x,look ρ y,ibin op k a b)=(Value.int k a,Value.int k b,some (Value.bool A))) (B:A=z) (h:zAX P r ops os (ext ρ dst (.bool z)) w K):zAX P r ops (⟨dst,.binOp op t x y t',ty,pos,af,none⟩ :: os) ρ w K:=K8 e (B ▸ h)
theorem K0 {c:Operand} {x:Code} {b:Bool} (e:look ρ c = .bool b) (h:b=true->WPE P r N x Q δ ρ w) (A:b=false->WPE P r N y Q δ ρ w) (B:okC ρ c:=by exact rfl):WPE P r N (.cond c x y) Q δ ρ w:=wpe_ite B e h A
theorem E0:Ext w w:=Ext.refl w
theorem rJ (h:∀ {k:{K:Env->World->Prop // ∀ ρ' w',WPE P r N y Q δ ρ' w'->K ρ' w'}},zAX P r (⟨dst,.move x,ty,pos,af,none⟩ :: os) os (ext ρ dst (look ρ x)) w k.1) (e:okReg N (⟨dst,.move x,ty,pos,af,none⟩ :: os) ρ=true:=by rfl):WPE P r N (.seq (.region id (⟨dst,.move x,ty,pos,af,none⟩ :: os).toArray false) y) Q δ ρ w:=zFG e fun K A=>mv (h (k:=⟨K,A⟩))
theorem rI (h:∀ {k:{K:Env->World->Prop // ∀ ρ' w',Q .normal ρ' δ w'->K ρ' w'}},zAX P r (⟨dst,.move x,ty,pos,af,none⟩ :: os) os (ext ρ dst (look ρ x)) w k.1) (e:okReg N (⟨dst,.move x,ty,pos,af,none⟩ :: os) ρ=true:=by rfl):WPE P r N (.region id (⟨dst,.move x,ty,pos,af,none⟩ :: os).toArray false) Q δ ρ w:=zGc e fun K A=>mv (h (k:=⟨K,A⟩))
theorem en {fn:Func} {t:Nat} {u:World} {Φ:Value->World->Prop} (e:fn.results = #[.tmp t]) (E:Ext u w) (h:Φ (look1 ρ t) w) (A:(dom ρ).contains t=true:=by rfl):funQ (fun ρ δ w'=>δ=[]/\∃ v,Gives P fn N ρ w' v/\Ext u w'/\Φ v w') .ret ρ [] w:=⟨rfl,_,zZ e A,E,h⟩
theorem ru {k:{K:Env->World->Prop // ∀ ρ' w',WPE P r N y Q δ ρ' w'->K ρ' w'}} (h:WPE P r N y Q δ ρ w):zAX P r ops [] ρ w k.1:=k.2 _ _ h
end
section
variable {P:Program} {f:FuncId} {fn:Func} {c:Code} {args:Array Value} {w:World} {Φ:Value->World->Prop}
theorem J0 (N:Nat) (e:P.funcs[f]? = some fn) (A:fn.body=some c) (h:WPE P none N c (funQ fun ρ δ w'=>δ=[]/\∃ v,Gives P fn N ρ w' v/\Ext w w'/\Φ v w') [] (args0 0 args.toList) w) (B:fn.ntmps=N:=by rfl) (C:args.size<=N:=by exact cw rfl):Ret P f args w Φ:=ret_of_wpe N e A B C h
theorem hb_ (e:P.funcs[f]? = some fn) (h:(fn.body.isSome,fn.name == "runtime.NumGoroutine")=(true,false):=by kernel_rfl):zBA P f:=fun a w=>by
  obtain ⟨b,A⟩:=gq.1 (gX h).1
  exact enters_of e (gX h).2 A a w
theorem kp {ρ:Env}:∀ {ρ':Env},ρ'.map (fun x=>((dom ρ).contains x.1,look1 ρ x.1))=ρ'.map (fun x=>(true,x.2))->Keep ρ ρ'
  | [],_=>trivial
  | (_,_) :: _,h=>by
    simp only [fi,List.cons.injEq,Prod.mk.injEq] at h
    exact ⟨h.1.1,h.1.2,kp h.2⟩
end
abbrev X0 (w:World) (p:World->Prop):Prop:=∀ {w'},Ext w w'->p w'
section
variable {P:Program} {r:Option Nat} {d:Option Tmp} {ty:TypeId} {pos:String} {af:Array Edge} {g:Option (Nat×Bool)} {σ:Operand->Value} {w u:World} {K:Value->World->Prop} {f:FuncId} {args:Array Operand} {ts:Array TypeId} {Φ:Value->World->Prop}
theorem j0 (E:Ext u w) (F:zBA P f) (G:Ret P f (args.toList.map σ).toArray w Φ) (h:∀ v w',Ext u w'->Φ v w'->K v w') (C:σ (.func f) = .func (.func f) #[] #[]:=by rfl):Runs P r ⟨d,.call { callee := .value (.func f),args:=args,argTypes:=ts },ty,pos,af,g⟩ σ w K:=zJ F (CallK.of_ret G fun v w' e q=>h v w' (E.trans e) q) C
theorem j1 {G:World->Prop} (E:Ext u w) (C:X0 w G) (H:zBA P f) (I:Ret P f (args.toList.map σ).toArray w Φ) (h:∀ v w',Ext u w'->G w'->Φ v w'->K v w') (F:σ (.func f) = .func (.func f) #[] #[]:=by rfl):Runs P r ⟨d,.call { callee := .value (.func f),args:=args,argTypes:=ts },ty,pos,af,g⟩ σ w K:=zJ H (CallK.of_ret I fun v w' e q=>h v w' (E.trans e) (C e) q) F
theorem j2 {H I:World->Prop} (E:Ext u w) (C:X0 w H) (F:X0 w I) (M:zBA P f) (O:Ret P f (args.toList.map σ).toArray w Φ) (h:∀ v w',Ext u w'->H w'->I w'->Φ v w'->K v w') (G:σ (.func f) = .func (.func f) #[] #[]:=by rfl):Runs P r ⟨d,.call { callee := .value (.func f),args:=args,argTypes:=ts },ty,pos,af,g⟩ σ w K:=zJ M (CallK.of_ret O fun v w' e q=>h v w' (E.trans e) (C e) (F e) q) G
theorem j3 {I M O:World->Prop} (E:Ext u w) (C:X0 w I) (F:X0 w M) (G:X0 w O) (U:zBA P f) (V:Ret P f (args.toList.map σ).toArray w Φ) (h:∀ v w',Ext u w'->I w'->M w'->O w'->Φ v w'->K v w') (H:σ (.func f) = .func (.func f) #[] #[]:=by rfl):Runs P r ⟨d,.call { callee := .value (.func f),args:=args,argTypes:=ts },ty,pos,af,g⟩ σ w K:=zJ U (CallK.of_ret V fun v w' e q=>h v w' (E.trans e) (C e) (F e) (G e) q) H
theorem j4 {M O U V:World->Prop} (E:Ext u w) (C:X0 w M) (F:X0 w O) (G:X0 w U) (H:X0 w V) (X:zBA P f) (Y:Ret P f (args.toList.map σ).toArray w Φ) (h:∀ v w',Ext u w'->M w'->O w'->U w'->V w'->Φ v w'->K v w') (I:σ (.func f) = .func (.func f) #[] #[]:=by rfl):Runs P r ⟨d,.call { callee := .value (.func f),args:=args,argTypes:=ts },ty,pos,af,g⟩ σ w K:=zJ X (CallK.of_ret Y fun v w' e q=>h v w' (E.trans e) (C e) (F e) (G e) (H e) q) I
theorem j5 {O U V X Y:World->Prop} (E:Ext u w) (C:X0 w O) (F:X0 w U) (G:X0 w V) (H:X0 w X) (I:X0 w Y) (Z:zBA P f) (hr:Ret P f (args.toList.map σ).toArray w Φ) (h:∀ v w',Ext u w'->O w'->U w'->V w'->X w'->Y w'->Φ v w'->K v w') (M:σ (.func f) = .func (.func f) #[] #[]:=by rfl):Runs P r ⟨d,.call { callee := .value (.func f),args:=args,argTypes:=ts },ty,pos,af,g⟩ σ w K:=zJ Z (CallK.of_ret hr fun v w' e q=>h v w' (E.trans e) (C e) (F e) (G e) (H e) (I e) q) M
theorem j6 {U V X Y Z p5:World->Prop} (E:Ext u w) (C:X0 w U) (F:X0 w V) (G:X0 w X) (H:X0 w Y) (I:X0 w Z) (M:X0 w p5) (hf:zBA P f) (hr:Ret P f (args.toList.map σ).toArray w Φ) (h:∀ v w',Ext u w'->U w'->V w'->X w'->Y w'->Z w'->p5 w'->Φ v w'->K v w') (O:σ (.func f) = .func (.func f) #[] #[]:=by rfl):Runs P r ⟨d,.call { callee := .value (.func f),args:=args,argTypes:=ts },ty,pos,af,g⟩ σ w K:=zJ hf (CallK.of_ret hr fun v w' e q=>h v w' (E.trans e) (C e) (F e) (G e) (H e) (I e) (M e) q) O
theorem j7 {V X Y Z p4 p5 p6:World->Prop} (E:Ext u w) (C:X0 w V) (F:X0 w X) (G:X0 w Y) (H:X0 w Z) (I:X0 w p4) (M:X0 w p5) (O:X0 w p6) (hf:zBA P f) (hr:Ret P f (args.toList.map σ).toArray w Φ) (h:∀ v w',Ext u w'->V w'->X w'->Y w'->Z w'->p4 w'->p5 w'->p6 w'->Φ v w'->K v w') (U:σ (.func f) = .func (.func f) #[] #[]:=by rfl):Runs P r ⟨d,.call { callee := .value (.func f),args:=args,argTypes:=ts },ty,pos,af,g⟩ σ w K:=zJ hf (CallK.of_ret hr fun v w' e q=>h v w' (E.trans e) (C e) (F e) (G e) (H e) (I e) (M e) (O e) q) U
theorem j8 {X Y Z p3 p4 p5 p6 p7:World->Prop} (E:Ext u w) (C:X0 w X) (F:X0 w Y) (G:X0 w Z) (H:X0 w p3) (I:X0 w p4) (M:X0 w p5) (O:X0 w p6) (U:X0 w p7) (hf:zBA P f) (hr:Ret P f (args.toList.map σ).toArray w Φ) (h:∀ v w',Ext u w'->X w'->Y w'->Z w'->p3 w'->p4 w'->p5 w'->p6 w'->p7 w'->Φ v w'->K v w') (V:σ (.func f) = .func (.func f) #[] #[]:=by rfl):Runs P r ⟨d,.call { callee := .value (.func f),args:=args,argTypes:=ts },ty,pos,af,g⟩ σ w K:=zJ hf (CallK.of_ret hr fun v w' e q=>h v w' (E.trans e) (C e) (F e) (G e) (H e) (I e) (M e) (O e) (U e) q) V
theorem j9 {Y Z p2 p3 p4 p5 p6 p7 p8:World->Prop} (E:Ext u w) (C:X0 w Y) (F:X0 w Z) (G:X0 w p2) (H:X0 w p3) (I:X0 w p4) (M:X0 w p5) (O:X0 w p6) (U:X0 w p7) (V:X0 w p8) (hf:zBA P f) (hr:Ret P f (args.toList.map σ).toArray w Φ) (h:∀ v w',Ext u w'->Y w'->Z w'->p2 w'->p3 w'->p4 w'->p5 w'->p6 w'->p7 w'->p8 w'->Φ v w'->K v w') (X:σ (.func f) = .func (.func f) #[] #[]:=by rfl):Runs P r ⟨d,.call { callee := .value (.func f),args:=args,argTypes:=ts },ty,pos,af,g⟩ σ w K:=zJ hf (CallK.of_ret hr fun v w' e q=>h v w' (E.trans e) (C e) (F e) (G e) (H e) (I e) (M e) (O e) (U e) (V e) q) X
theorem j10 {Z p1 p2 p3 p4 p5 p6 p7 p8 p9:World->Prop} (E:Ext u w) (C:X0 w Z) (F:X0 w p1) (G:X0 w p2) (H:X0 w p3) (I:X0 w p4) (M:X0 w p5) (O:X0 w p6) (U:X0 w p7) (V:X0 w p8) (X:X0 w p9) (hf:zBA P f) (hr:Ret P f (args.toList.map σ).toArray w Φ) (h:∀ v w',Ext u w'->Z w'->p1 w'->p2 w'->p3 w'->p4 w'->p5 w'->p6 w'->p7 w'->p8 w'->p9 w'->Φ v w'->K v w') (Y:σ (.func f) = .func (.func f) #[] #[]:=by rfl):Runs P r ⟨d,.call { callee := .value (.func f),args:=args,argTypes:=ts },ty,pos,af,g⟩ σ w K:=zJ hf (CallK.of_ret hr fun v w' e q=>h v w' (E.trans e) (C e) (F e) (G e) (H e) (I e) (M e) (O e) (U e) (V e) (X e) q) Y
end
section
variable {w u:World}
theorem pU {a b:Prop} (e:a:=by kernel_rfl) (h:b:=by kernel_rfl):a/\b:=⟨e,h⟩
theorem sB {a b:Bool} (h:a=b):some (Value.bool a)=some (Value.bool b):=cW (fun z=>some (Value.bool z)) h
theorem sI {k:IntKind} {a b:Int} (h:a=b):some (Value.int k a)=some (Value.int k b):=cW (fun z=>some (Value.int k z)) h
theorem vT {p:Prop} [Decidable p] (h:p:=by omega):Value.bool (decide p) = .bool true:=cW Value.bool (cZ h)
theorem vF {p:Prop} [Decidable p] (h:¬ p:=by omega):Value.bool (decide p) = .bool false:=cW Value.bool (cU h)
theorem kw {ρ ρ':Env} (h:Keep ρ ρ':=by repeat' first | exact trivial | exact rfl | refine ⟨?_,?_⟩ | exact cW (Value.int _) (wrap_succ oM)):Keep ρ ρ':=h
theorem gE {b:Nat} (e:b=w.heap.size) (E:Ext u w):u.heap.size<=b:=by rw [e];exact E.size
theorem V1 {w':World} {A:World->Prop} (e:Ext w w') (E:Ext u w) (h:X0 w A):Ext u w'/\A w':=⟨E.trans e,h e⟩
theorem V2 {w':World} {B C:World->Prop} (e:Ext w w') (E:Ext u w) (h:X0 w B) (A:X0 w C):Ext u w'/\B w'/\C w':=⟨E.trans e,h e,A e⟩
theorem V3 {w':World} {C F G:World->Prop} (e:Ext w w') (E:Ext u w) (h:X0 w C) (A:X0 w F) (B:X0 w G):Ext u w'/\C w'/\F w'/\G w':=⟨E.trans e,h e,A e,B e⟩
theorem V4 {w':World} {F G H I:World->Prop} (e:Ext w w') (E:Ext u w) (h:X0 w F) (A:X0 w G) (B:X0 w H) (C:X0 w I):Ext u w'/\F w'/\G w'/\H w'/\I w':=⟨E.trans e,h e,A e,B e,C e⟩
theorem V5 {w':World} {G H I M O:World->Prop} (e:Ext w w') (E:Ext u w) (h:X0 w G) (A:X0 w H) (B:X0 w I) (C:X0 w M) (F:X0 w O):Ext u w'/\G w'/\H w'/\I w'/\M w'/\O w':=⟨E.trans e,h e,A e,B e,C e,F e⟩
theorem V6 {w':World} {H I M O U V:World->Prop} (e:Ext w w') (E:Ext u w) (h:X0 w H) (A:X0 w I) (B:X0 w M) (C:X0 w O) (F:X0 w U) (G:X0 w V):Ext u w'/\H w'/\I w'/\M w'/\O w'/\U w'/\V w':=⟨E.trans e,h e,A e,B e,C e,F e,G e⟩
theorem V7 {w':World} {I M O U V X Y:World->Prop} (e:Ext w w') (E:Ext u w) (h:X0 w I) (A:X0 w M) (B:X0 w O) (C:X0 w U) (F:X0 w V) (G:X0 w X) (H:X0 w Y):Ext u w'/\I w'/\M w'/\O w'/\U w'/\V w'/\X w'/\Y w':=⟨E.trans e,h e,A e,B e,C e,F e,G e,H e⟩
theorem V8 {w':World} {M O U V X Y Z p7:World->Prop} (e:Ext w w') (E:Ext u w) (h:X0 w M) (A:X0 w O) (B:X0 w U) (C:X0 w V) (F:X0 w X) (G:X0 w Y) (H:X0 w Z) (I:X0 w p7):Ext u w'/\M w'/\O w'/\U w'/\V w'/\X w'/\Y w'/\Z w'/\p7 w':=⟨E.trans e,h e,A e,B e,C e,F e,G e,H e,I e⟩
theorem V9 {w':World} {O U V X Y Z p6 p7 p8:World->Prop} (e:Ext w w') (E:Ext u w) (h:X0 w O) (A:X0 w U) (B:X0 w V) (C:X0 w X) (F:X0 w Y) (G:X0 w Z) (H:X0 w p6) (I:X0 w p7) (M:X0 w p8):Ext u w'/\O w'/\U w'/\V w'/\X w'/\Y w'/\Z w'/\p6 w'/\p7 w'/\p8 w':=⟨E.trans e,h e,A e,B e,C e,F e,G e,H e,I e,M e⟩
theorem V11 {w':World} {X Y Z p3 p4 p5 p6 p7 p8 p9 h:World->Prop} (e:Ext w w') (E:Ext u w) (B:X0 w X) (C:X0 w Y) (F:X0 w Z) (G:X0 w p3) (H:X0 w p4) (I:X0 w p5) (M:X0 w p6) (O:X0 w p7) (U:X0 w p8) (V:X0 w p9) (A:X0 w h):Ext u w'/\X w'/\Y w'/\Z w'/\p3 w'/\p4 w'/\p5 w'/\p6 w'/\p7 w'/\p8 w'/\p9 w'/\h w':=⟨E.trans e,B e,C e,F e,G e,H e,I e,M e,O e,U e,V e,A e⟩
theorem Z0 {B S:Nat->World->Prop} {K:Nat->World->Prop} (E:Ext u w) (h:∀ b w',Ext u w'->u.heap.size<=b->B b w'->K b w') (b:Nat) (w':World) (A:b=w.heap.size) (e:Ext w w') (C:B b w') (_:S b w'):K b w':=h b w' (E.trans e) (gE A E) C
theorem Z1 {B S:Nat->World->Prop} {K:Nat->World->Prop} {C:World->Prop} (E:Ext u w) (A:X0 w C) (h:∀ b w',Ext u w'->C w'->u.heap.size<=b->B b w'->K b w') (b:Nat) (w':World) (F:b=w.heap.size) (e:Ext w w') (G:B b w') (_:S b w'):K b w':=h b w' (E.trans e) (A e) (gE F E) G
theorem Z2 {B S:Nat->World->Prop} {K:Nat->World->Prop} {F G:World->Prop} (E:Ext u w) (A:X0 w F) (C:X0 w G) (h:∀ b w',Ext u w'->F w'->G w'->u.heap.size<=b->B b w'->K b w') (b:Nat) (w':World) (H:b=w.heap.size) (e:Ext w w') (I:B b w') (_:S b w'):K b w':=h b w' (E.trans e) (A e) (C e) (gE H E) I
theorem Z3 {B S:Nat->World->Prop} {K:Nat->World->Prop} {G H I:World->Prop} (E:Ext u w) (A:X0 w G) (C:X0 w H) (F:X0 w I) (h:∀ b w',Ext u w'->G w'->H w'->I w'->u.heap.size<=b->B b w'->K b w') (b:Nat) (w':World) (M:b=w.heap.size) (e:Ext w w') (O:B b w') (_:S b w'):K b w':=h b w' (E.trans e) (A e) (C e) (F e) (gE M E) O
theorem Z4 {B S:Nat->World->Prop} {K:Nat->World->Prop} {H I M O:World->Prop} (E:Ext u w) (A:X0 w H) (C:X0 w I) (F:X0 w M) (G:X0 w O) (h:∀ b w',Ext u w'->H w'->I w'->M w'->O w'->u.heap.size<=b->B b w'->K b w') (b:Nat) (w':World) (U:b=w.heap.size) (e:Ext w w') (V:B b w') (_:S b w'):K b w':=h b w' (E.trans e) (A e) (C e) (F e) (G e) (gE U E) V
theorem Z6 {B S:Nat->World->Prop} {K:Nat->World->Prop} {M O U V X Y:World->Prop} (E:Ext u w) (A:X0 w M) (C:X0 w O) (F:X0 w U) (G:X0 w V) (H:X0 w X) (I:X0 w Y) (h:∀ b w',Ext u w'->M w'->O w'->U w'->V w'->X w'->Y w'->u.heap.size<=b->B b w'->K b w') (b:Nat) (w':World) (Z:b=w.heap.size) (e:Ext w w') (hB:B b w') (_:S b w'):K b w':=h b w' (E.trans e) (A e) (C e) (F e) (G e) (H e) (I e) (gE Z E) hB
theorem Z1a {B S:Nat->World->Prop} {K:Nat->World->Prop} {F:World->Prop} (E:Ext u w) (A:X0 w F) {G:Nat} (C:G<w.heap.size) (h:∀ b w',Ext u w'->F w'->u.heap.size<=b->G≠b->B b w'->K b w') (b:Nat) (w':World) (H:b=w.heap.size) (e:Ext w w') (I:B b w') (_:S b w'):K b w':=h b w' (E.trans e) (A e) (gE H E) (fv (H ▸ C)) I
theorem Z2a {B S:Nat->World->Prop} {K:Nat->World->Prop} {G H:World->Prop} (E:Ext u w) (A:X0 w G) (C:X0 w H) {I:Nat} (F:I<w.heap.size) (h:∀ b w',Ext u w'->G w'->H w'->u.heap.size<=b->I≠b->B b w'->K b w') (b:Nat) (w':World) (M:b=w.heap.size) (e:Ext w w') (O:B b w') (_:S b w'):K b w':=h b w' (E.trans e) (A e) (C e) (gE M E) (fv (M ▸ F)) O
theorem Z3a {B S:Nat->World->Prop} {K:Nat->World->Prop} {H I M:World->Prop} (E:Ext u w) (A:X0 w H) (C:X0 w I) (F:X0 w M) {O:Nat} (G:O<w.heap.size) (h:∀ b w',Ext u w'->H w'->I w'->M w'->u.heap.size<=b->O≠b->B b w'->K b w') (b:Nat) (w':World) (U:b=w.heap.size) (e:Ext w w') (V:B b w') (_:S b w'):K b w':=h b w' (E.trans e) (A e) (C e) (F e) (gE U E) (fv (U ▸ G)) V
theorem Z4a {B S:Nat->World->Prop} {K:Nat->World->Prop} {I M O U:World->Prop} (E:Ext u w) (A:X0 w I) (C:X0 w M) (F:X0 w O) (G:X0 w U) {V:Nat} (H:V<w.heap.size) (h:∀ b w',Ext u w'->I w'->M w'->O w'->U w'->u.heap.size<=b->V≠b->B b w'->K b w') (b:Nat) (w':World) (X:b=w.heap.size) (e:Ext w w') (Y:B b w') (_:S b w'):K b w':=h b w' (E.trans e) (A e) (C e) (F e) (G e) (gE X E) (fv (X ▸ H)) Y
theorem Z5a {B S:Nat->World->Prop} {K:Nat->World->Prop} {M O U V X:World->Prop} (E:Ext u w) (A:X0 w M) (C:X0 w O) (F:X0 w U) (G:X0 w V) (H:X0 w X) {Y:Nat} (I:Y<w.heap.size) (h:∀ b w',Ext u w'->M w'->O w'->U w'->V w'->X w'->u.heap.size<=b->Y≠b->B b w'->K b w') (b:Nat) (w':World) (Z:b=w.heap.size) (e:Ext w w') (hB:B b w') (_:S b w'):K b w':=h b w' (E.trans e) (A e) (C e) (F e) (G e) (H e) (gE Z E) (fv (Z ▸ I)) hB
theorem Z7a {B S:Nat->World->Prop} {K:Nat->World->Prop} {U V X Y Z p5 p6:World->Prop} (E:Ext u w) (A:X0 w U) (C:X0 w V) (F:X0 w X) (G:X0 w Y) (H:X0 w Z) (I:X0 w p5) (M:X0 w p6) {c0:Nat} (O:c0<w.heap.size) (h:∀ b w',Ext u w'->U w'->V w'->X w'->Y w'->Z w'->p5 w'->p6 w'->u.heap.size<=b->c0≠b->B b w'->K b w') (b:Nat) (w':World) (hb:b=w.heap.size) (e:Ext w w') (hB:B b w') (_:S b w'):K b w':=h b w' (E.trans e) (A e) (C e) (F e) (G e) (H e) (I e) (M e) (gE hb E) (fv (hb ▸ O)) hB
theorem Z2b {B S:Nat->World->Prop} {K:Nat->World->Prop} {I M:World->Prop} (E:Ext u w) (C:X0 w I) (F:X0 w M) {O:Nat} (G:O<w.heap.size) {U:Nat} (H:U<w.heap.size) (h:∀ b w',Ext u w'->I w'->M w'->u.heap.size<=b->O≠b->U≠b->B b w'->K b w') (b:Nat) (w':World) (A:b=w.heap.size) (e:Ext w w') (V:B b w') (_:S b w'):K b w':=h b w' (E.trans e) (C e) (F e) (gE A E) (fv (A ▸ G)) (fv (A ▸ H)) V
theorem Z3b {B S:Nat->World->Prop} {K:Nat->World->Prop} {M O U:World->Prop} (E:Ext u w) (C:X0 w M) (F:X0 w O) (G:X0 w U) {V:Nat} (H:V<w.heap.size) {X:Nat} (I:X<w.heap.size) (h:∀ b w',Ext u w'->M w'->O w'->U w'->u.heap.size<=b->V≠b->X≠b->B b w'->K b w') (b:Nat) (w':World) (A:b=w.heap.size) (e:Ext w w') (Y:B b w') (_:S b w'):K b w':=h b w' (E.trans e) (C e) (F e) (G e) (gE A E) (fv (A ▸ H)) (fv (A ▸ I)) Y
theorem Z4b {B S:Nat->World->Prop} {K:Nat->World->Prop} {O U V X:World->Prop} (E:Ext u w) (C:X0 w O) (F:X0 w U) (G:X0 w V) (H:X0 w X) {Y:Nat} (I:Y<w.heap.size) {Z:Nat} (M:Z<w.heap.size) (h:∀ b w',Ext u w'->O w'->U w'->V w'->X w'->u.heap.size<=b->Y≠b->Z≠b->B b w'->K b w') (b:Nat) (w':World) (A:b=w.heap.size) (e:Ext w w') (hB:B b w') (_:S b w'):K b w':=h b w' (E.trans e) (C e) (F e) (G e) (H e) (gE A E) (fv (A ▸ I)) (fv (A ▸ M)) hB
theorem Z5b {B S:Nat->World->Prop} {K:Nat->World->Prop} {U V X Y Z:World->Prop} (E:Ext u w) (C:X0 w U) (F:X0 w V) (G:X0 w X) (H:X0 w Y) (I:X0 w Z) {c0:Nat} (M:c0<w.heap.size) {c1:Nat} (O:c1<w.heap.size) (h:∀ b w',Ext u w'->U w'->V w'->X w'->Y w'->Z w'->u.heap.size<=b->c0≠b->c1≠b->B b w'->K b w') (b:Nat) (w':World) (A:b=w.heap.size) (e:Ext w w') (hB:B b w') (_:S b w'):K b w':=h b w' (E.trans e) (C e) (F e) (G e) (H e) (I e) (gE A E) (fv (A ▸ M)) (fv (A ▸ O)) hB
theorem Z6b {B S:Nat->World->Prop} {K:Nat->World->Prop} {V X Y Z p4 p5:World->Prop} (E:Ext u w) (C:X0 w V) (F:X0 w X) (G:X0 w Y) (H:X0 w Z) (I:X0 w p4) (M:X0 w p5) {c0:Nat} (O:c0<w.heap.size) {c1:Nat} (U:c1<w.heap.size) (h:∀ b w',Ext u w'->V w'->X w'->Y w'->Z w'->p4 w'->p5 w'->u.heap.size<=b->c0≠b->c1≠b->B b w'->K b w') (b:Nat) (w':World) (A:b=w.heap.size) (e:Ext w w') (hB:B b w') (_:S b w'):K b w':=h b w' (E.trans e) (C e) (F e) (G e) (H e) (I e) (M e) (gE A E) (fv (A ▸ O)) (fv (A ▸ U)) hB
theorem Z8b {B S:Nat->World->Prop} {K:Nat->World->Prop} {Y Z p2 p3 p4 p5 p6 p7:World->Prop} (E:Ext u w) (C:X0 w Y) (F:X0 w Z) (G:X0 w p2) (H:X0 w p3) (I:X0 w p4) (M:X0 w p5) (O:X0 w p6) (U:X0 w p7) {c0:Nat} (V:c0<w.heap.size) {c1:Nat} (X:c1<w.heap.size) (h:∀ b w',Ext u w'->Y w'->Z w'->p2 w'->p3 w'->p4 w'->p5 w'->p6 w'->p7 w'->u.heap.size<=b->c0≠b->c1≠b->B b w'->K b w') (b:Nat) (w':World) (A:b=w.heap.size) (e:Ext w w') (hB:B b w') (_:S b w'):K b w':=h b w' (E.trans e) (C e) (F e) (G e) (H e) (I e) (M e) (O e) (U e) (gE A E) (fv (A ▸ V)) (fv (A ▸ X)) hB
theorem Z6d {B S:Nat->World->Prop} {K:Nat->World->Prop} {X Y Z p3 p4 p5:World->Prop} (E:Ext u w) (C:X0 w X) (F:X0 w Y) (G:X0 w Z) (H:X0 w p3) (I:X0 w p4) (M:X0 w p5) {c0:Nat} (O:c0<w.heap.size) {c1:Nat} (U:c1<w.heap.size) {c2:Nat} (V:c2<w.heap.size) (h:∀ b w',Ext u w'->X w'->Y w'->Z w'->p3 w'->p4 w'->p5 w'->u.heap.size<=b->c0≠b->c1≠b->c2≠b->B b w'->K b w') (b:Nat) (w':World) (A:b=w.heap.size) (e:Ext w w') (hB:B b w') (_:S b w'):K b w':=h b w' (E.trans e) (C e) (F e) (G e) (H e) (I e) (M e) (gE A E) (fv (A ▸ O)) (fv (A ▸ U)) (fv (A ▸ V)) hB
end
variable {j n0:Nat} {fl:List Nat} {u:Value} {w0:World} {ρ ρ':Env}
structure ExtS (S:List Nat) (w w':World):Prop where
 os:w'.os=w.os
 tape:w'.tape=w.tape
 output:w'.output=w.output
 size:w.heap.size<=w'.heap.size
 block:∀ k,k<w.heap.size->k ∉ S->w'.heap[k]? = w.heap[k]?
 kind:∀ k T cs,Blk w k T cs->∃ cs',Blk w' k T cs'
theorem ExtS.refl (S:List Nat) (w:World):ExtS S w w:=⟨rfl,rfl,rfl,cX _,fun _ _ _=>rfl,fun _ _ cs h=>⟨cs,h⟩⟩
theorem ExtS.trans {S:List Nat} {a b c:World} (h:ExtS S a b) (k:ExtS S b c):ExtS S a c :=
 ⟨k.os.trans h.os,k.tape.trans h.tape,k.output.trans h.output,dz h.size k.size,fun i e A=>(k.block i (fm e h.size) A).trans (h.block i e A),fun i T cs hb=>let ⟨_,B⟩:=h.kind i T cs hb;k.kind i T _ B⟩
theorem Ext.toS (h:Ext w w') (S:List Nat):ExtS S w w':=⟨Below.os h,Below.tape h,Below.output h,Below.size h,fun k e _=>Below.block h k e,fun _ _ cs A=>⟨cs,A.ext h⟩⟩
theorem ExtS.toExt (h:ExtS [] w w'):Ext w w':=⟨h.os,h.tape,h.output,h.size,fun k e=>h.block k e sM⟩
theorem Upd.toS {b:Nat} (h:Upd b w w') {S:List Nat} (B:b∈S):ExtS S w w' :=
 ⟨h.os,h.tape,h.output,by rw [h.size];exact cX _,fun k _ C=>h.block k (fun e=>C (e ▸ B)),fun k T cs A=>by
  by_cases e:k=b
  . subst e;exact h.kind T cs A
  . exact ⟨cs,A.upd h e⟩⟩
theorem Blk.extS {b:Nat} {S:List Nat} (h:Blk w b T cs) (e:ExtS S w w') (A:b ∉ S):Blk w' b T cs:=by
 have:=e.block b h.lt A;unfold Blk at *;rw [this];exact h
theorem ExtS.mono {S A:List Nat} (h:ExtS S w w') (B:∀ k∈S,k∈A):ExtS A w w' :=
 ⟨h.os,h.tape,h.output,h.size,fun k C F=>h.block k C (fun e=>F (B k e)),h.kind⟩
structure StoreSpec where
 idx:Nat
 blk:Nat
 pre:World->Prop
 post:World->Prop
def waits (ops:List Oper) (j i:Nat):Bool :=
 match ops[j]? with
 | some o=>o.after.toList.any (fun e=>Region.binds .any e&&e.on==i)
 | none=>false
def zBX (ops:List Oper) (t:Nat):Option Nat:=ops.findIdx? (fun o=>o.dst==some t)
def lookσ (σ:Nat->Value):Operand->Value
 | .tmp t=>σ t
 | .const v=>v
 | .global g => .pointer (some ⟨g,0,none⟩)
 | .func f => .func (.func f) #[] #[]
abbrev Fact:=Value->World->Prop
abbrev Vals:=Nat->Option Value
def upd (f:Vals) (i:Nat) (v:Value):Vals:=fun k=>if k=i then some v else f k
def slot (ops:List Oper) (ρ:Env) (f:Vals) (t:Nat):Value:=((zBX ops t).bind f).getD (look1 ρ t)
section pure
def pureV (o:Oper) (σ:Nat->Value):Option Value:=match o.op with
 | .extract x i=>match lookσ σ x with | .tuple vs=>vs[i]? | _=>none
 | .move x=>some (lookσ σ x)
 | _=>none
def zKd (o:Oper):Bool:=match o.op with
 | .extract _ _=>true
 | .move _=>true
 | _=>false
theorem zOz {o:Oper} (h:zKd o=true) {σ:Nat->Value} {K:Value->World->Prop}:Runs P r o (lookσ σ) w K↔∃ v,pureV o σ=some v/\K v w:=by
 obtain ⟨d,op,ty,pos,af,g⟩:=o;unfold Runs;rw [zDJ (fun c e=>by cases e;cases h)];cases op<;>simp [zKd] at h
 case extract x i =>
  cases A:lookσ σ x<;>simp [execOp,Instr.extract,pureV,A];rename_i vs;cases hv:vs[i]? <;> simp
 case move x=>simp [execOp,pureV]
end pure
def zJQ (ops:List Oper) (ρ:Env) (N:Nat):Bool :=
 (dom ρ).all (fun t=>decide (t<N))&&decide ((ops.filterMap (·.dst)).Nodup) &&
 (List.range ops.length).all fun i=>match ops[i]? with
  | none=>false
  | some o=>(match o.dst with | some d=>decide (d<N) | none=>true)&&(match o.op with | .select _ _=>false | .defer _=>false | _=>true)&&o.guard.isNone &&
   o.after.toList.all (fun e => !Region.binds .any e || decide (e.on<i))&&(seesL ops o).all fun t=>match zBX ops t with
    | some j=>waits ops i j || ((waits ops j i || i==j)&&(dom ρ).contains t)
    | none=>(dom ρ).contains t
structure DrawOk (ops:List Oper) (ρ:Env) (N:Nat):Prop where
 lt:∀ t∈dom ρ,t<N
 nd:(ops.filterMap (·.dst)).Nodup
 op:∀ i o,ops[i]? = some o->(∀ d,o.dst=some d->d<N)/\(∀ cs b,o.op≠.select cs b)/\(∀ c,o.op≠.defer c)/\o.guard=none/\(∀ j,waits ops i j=true->j<i) /\
  ∀ t∈seesL ops o,match zBX ops t with
   | some j=>waits ops i j=true\/((waits ops j i=true\/i=j)/\t∈dom ρ)
   | none=>t∈dom ρ
theorem zOk (h:zJQ ops ρ N=true):DrawOk ops ρ N:=by
 simp only [zJQ,ee,eZ,eA,List.mem_range] at h;refine ⟨h.1.1,h.1.2,fun i o B => ?_⟩;have A:=h.2 i (dY.1 B).1;rw [B] at A;simp only [ee,eZ] at A;obtain ⟨⟨⟨⟨A,F⟩,H⟩,h4⟩,h5⟩:=A;refine ⟨fun d I=>by simpa [I] using A,fun cs b e=>by simp [e] at F,fun c e=>by simp [e] at F,by simpa using H,fun j C => ?_,fun t M => ?_⟩
 . unfold waits at C;rw [B] at C;obtain ⟨e,he,G⟩:=ig.1 C;simp only [ee,ge] at G;have:=h4 e he;simp [G.1] at this;omega
 . have:=h5 t M;cases hw:zBX ops t<;>rw [hw] at this<;>simpa using this
section
theorem nodup_dst {o C:Oper} (e:(ops.filterMap (·.dst)).Nodup) (A:ops[i]? = some o) (B:ops[j]? = some C) (h:o.dst=some t) (G:C.dst=some t):i=j:=by
 induction ops generalizing i j with
 | nil=>simp at A
 | cons x xs I =>
  have H:∀ (k:Nat) (y:Oper),xs[k]? = some y->y.dst=some t->x.dst≠some t:=fun k y M O hxt=>by
   simp only [List.filterMap_cons,hxt,List.nodup_cons] at e;exact e.1 (List.mem_filterMap.2 ⟨y,gY M,O⟩)
  have F:(xs.filterMap (·.dst)).Nodup:=by
   rw [List.filterMap_cons] at e;split at e
   . exact e
   . exact (List.nodup_cons.1 e).2
  cases i with
  | zero =>
   simp at A;subst A;cases j with
   | zero=>rfl
   | succ j=>exact absurd h (H j C (by simpa using B) G)
  | succ i =>
   cases j with
   | zero=>simp at B;subst B;exact absurd G (H i o (by simpa using A) h)
   | succ j=>exact cW Nat.succ (I F (by simpa using A) (by simpa using B))
theorem zEp (h:zBX ops t=some j):∃ o,ops[j]? = some o/\o.dst=some t:=by
 unfold zBX at h;obtain ⟨e,A,_⟩:=List.findIdx?_eq_some_iff_getElem.1 h;exact ⟨ops[j],by simp [e],by simpa using A⟩
theorem DrawOk.wr (C:DrawOk ops ρ N) {o:Oper} (e:ops[i]? = some o):zBX ops t=some i↔o.dst=some t:=by
 constructor
 . intro h;obtain ⟨F,A,B⟩:=zEp h;cases e.symm.trans A;exact B
 . intro h;cases hw:zBX ops t with
   | none =>
    have:=List.findIdx?_eq_none_iff.1 hw o (gY e);simp [h] at this
   | some j =>
    obtain ⟨F,A,B⟩:=zEp hw;rw [nodup_dst C.nd e A h B]
theorem DrawOk.slot_upd (A:DrawOk ops ρ N) {o:Oper} (B:ops[i]? = some o) (f:Vals) (v:Value) (t:Nat) :
 slot ops ρ (upd f i v) t=(if o.dst=some t then v else slot ops ρ f t)/\(((zBX ops t).bind (upd f i v)).isSome=true↔o.dst=some t\/((zBX ops t).bind f).isSome=true):=by
 unfold slot;by_cases h:o.dst=some t
 . rw [(A.wr B).2 h];simp [upd,h]
 . have:(zBX ops t).bind (upd f i v)=(zBX ops t).bind f:=by
    cases C:zBX ops t with
    | none=>rfl
    | some j =>
     have:j≠i:=fun e=>h ((A.wr B).1 (e ▸ C));simp [upd,this]
   rw [this];simp [h]
def Ready (ops:List Oper) (f:Vals) (i:Nat):Prop:=f i=none/\(∀ j,waits ops i j=true->(f j).isSome=true)/\∀ j k,(f j).isSome=true->waits ops j k=true->(f k).isSome=true
structure Inv (ops:List Oper) (ρ:Env) (N:Nat) (δ:List Deferred) (f:Vals) (listed:Array Bool) (a:Act):Prop where
 size:listed.size=ops.length
 lst:∀ i,i<ops.length->listed.getD i false=(f i).isSome
 closed:∀ j k,(f j).isSome=true->waits ops j k=true->(f k).isSome=true
 defers:a.defers=δ
 tmps:a.tmps.size=N
 at_:∀ t,t∈dom ρ\/((zBX ops t).bind f).isSome=true->a.tmps.getD t undef=slot ops ρ f t
theorem all_done {A:Array Bool} (H:DrawOk ops ρ N) (I:A.size=ops.length) (h:Region.ready .any ops.toArray A=[]) (j:Nat) (C:j<ops.length):A.getD j false=true:=by
 induction j using Nat.strongRecOn with
 | _ j M =>
  cases G:A.getD j false with
  | true=>rfl
  | false =>
   have B:j∈Region.ready .any ops.toArray A:=by
    refine mem_ready.2 ⟨?_,ops[j],by simp [C],fun e he O => ?_⟩
    . have:j<A.size:=by rw [I];exact C
      simp [this] at G ⊢;exact G
    . have U:waits ops j e.on=true:=by
       unfold waits;simp only [cY C];exact ig.2 ⟨e,by simpa using he,by simp [O]⟩
      have F:=(H.op j _ (cY C)).2.2.2.2.1 _ U;exact M _ F oM
   rw [h] at B;cases B
theorem zQS (U:DrawOk ops ρ N) {J:Vals->World->Prop} {Q:Exit->Act->World->Prop}
 (hs:∀ f w i o,J f w->ops[i]? = some o->Ready ops f i->∀ σ:Nat->Value,(∀ t∈seesL ops o,σ t=slot ops ρ f t)->Runs P r o (lookσ σ) w (fun v w'=>J (upd f i v) w'))
 (hq:∀ f l a w,Inv ops ρ N δ f l a->(∀ i,i<ops.length->(f i).isSome=true)->J f w->Q .normal a w) :
 ∀ (fuel:Nat) (f:Vals) (A:Array Bool) (a:Act) (w:World),A.toList.count false<=fuel->Inv ops ρ N δ f A a->J f w->wpAnyIn (W r) 0 P .any ops.toArray Q fuel A a w
 | fuel,f,A,a,w,hf,B,hJ=>by
  have I:Region.ready .any ops.toArray A=[]->Q .normal a w:=fun hr =>
   hq f A a w B (fun i G=>by rw [<- B.lst i G];exact all_done U B.size hr i G) hJ
  have X:∀ i∈Region.ready .any ops.toArray A,i<A.size/\A.toList[i]? = some false:=fun i G=>by
   obtain ⟨C,o,ho,_⟩:=mem_ready.1 G;have hl:i<A.size:=by rw [B.size];exact (dY.1 (by simpa using ho)).1
   simp [hl] at C;exact ⟨hl,by simp [hl,C]⟩
  cases fuel with
  | zero =>
   have hr:Region.ready .any ops.toArray A=[]:=List.eq_nil_iff_forall_not_mem.2 fun i G=>by
    have:=List.count_pos_iff.2 (gY (X i G).2);omega
   exact ⟨hr,I hr⟩
  | succ fuel =>
   refine ⟨I,fun i G => ?_⟩;obtain ⟨H,O⟩:=X i G;obtain ⟨-,o,ho,Y⟩:=mem_ready.1 G;have ho':ops[i]? = some o:=by simpa using ho
   obtain ⟨am,Z,aa,hg,-,ab⟩:=U.op i o ho';have an:f i=none:=by
    have C:=B.lst i (by rw [<- B.size];exact H);have M:A.getD i false=false:=by simpa [H] using O
    rw [M] at C;cases h3:f i with
    | none=>rfl
    | some v=>rw [h3] at C;cases C
   have F:∀ j,waits ops i j=true->(f j).isSome=true:=fun j hj=>by
    have ao:=hj;unfold waits at hj;rw [ho'] at hj;obtain ⟨e,he,hb⟩:=ig.1 hj;simp only [ee,ge] at hb;have hjl:=(U.op i o ho').2.2.2.2.1 j ao;rw [<- B.lst j (by rw [<- B.size];omega),<- hb.2];exact Y e (by simpa using he) hb.1
   have ap:∀ t∈seesL ops o,a.tmps.getD t undef=slot ops ρ f t:=fun t ht=>B.at_ t (by
    have C:=ab t ht;cases hw:zBX ops t with
    | none=>rw [hw] at C;exact .inl C
    | some j =>
     rw [hw] at C;rcases C with C | C
     . exact .inr (F j C)
     . exact .inl C.2)
   have ad:=hs f w i o hJ ho' ⟨an,F,B.closed⟩ (fun t=>a.tmps.getD t undef) ap;have next:∀ v w',J (upd f i v) w'->wpAnyIn (W r) 0 P .any ops.toArray Q fuel (A.setIfInBounds i true) (a.put o.dst v) w':=fun v w' hJ'=>by
    refine zQS U hs hq fuel (upd f i v) _ _ w' ?_ ⟨by simp [B.size],fun k hk => ?_,fun j k C M => ?_,?_,?_,fun t ht => ?_⟩ hJ'
    . have C:i<A.toList.length:=H;have M:=List.count_pos_iff.2 (gY O);rw [Array.toList_setIfInBounds,List.count_set C];have h3:A.toList[i]=false:=(dY.1 O).2;rw [h3];simp only [beq_self_eq_true,ga,show ((true:Bool)==false)=false from rfl,ew,fY];omega
    . by_cases e:i=k
      . subst e;simp [upd,H]
      . rw [getD_set_ne false e,B.lst k hk];simp [upd,eH e]
    . by_cases e:k=i
      . simp [upd,e]
      . simp only [upd,ct e];by_cases e2:j=i
        . subst e2;exact F k M
        . simp only [upd,ct e2] at C;exact B.closed j k C M
    . rw [<- B.defers];cases o.dst<;>rfl
    . rw [<- B.tmps];cases o.dst<;>simp [Act.put]
    . obtain ⟨C,M⟩:=U.slot_upd ho' f v t;rw [C];rw [M] at ht;split
      . rename_i V;have:=am t V;rw [V];simp [Act.put,B.tmps,this]
      . rename_i V;rw [<- B.at_ t (ht.imp_right fun h=>h.resolve_left V)];cases hd':o.dst with
        | none=>rfl
        | some d =>
         have aq:d≠t:=fun e=>V (by rw [hd',e]);simp [Act.put,Array.getElem?_setIfInBounds_ne aq]
   unfold wpOpIn;simp only [List.getElem?_toArray,ho',Region.wanted,hg,ga];refine (Runs.congr Z aa (fun x _ => ?_) ad).wpIn next
   cases x<;>rfl
theorem wpe_core {Q:Post} (I:P.follows .mixedOrders=true) (M:DrawOk ops ρ N) {J:Vals->World->Prop} (O:J (fun _=>none) { w0 with drawn:=w0.drawn+1 })
 (U:∀ f w i o,J f w->ops[i]? = some o->Ready ops f i->∀ σ:Nat->Value,(∀ t∈seesL ops o,σ t=slot ops ρ f t)->Runs P r o (lookσ σ) w (fun v w'=>J (upd f i v) w'))
 (V:∀ f w,(∀ i,i<ops.length->(f i).isSome=true)->J f w->∃ ρ',(∀ t,look1 ρ' t=slot ops ρ f t/\(t∈dom ρ'->t∈dom ρ\/((zBX ops t).bind f).isSome=true))/\Q .normal ρ' δ w) :
 WPE P r N (.region id ops.toArray true) Q δ ρ w0:=fun a G X=>by
 refine wpIn_region_any I (zQS M U (Q:=lift N Q) (δ:=δ) (fun f l a w B C Y => ?_) _ (fun _=>none) _ a _ ?_ ⟨sM,fun i Z=>by simp [Z],fun j k h=>by (cases h),X,G.size,fun t A => ?_⟩ O)
 . obtain ⟨ρ',H,h2⟩:=V f w C Y;exact ⟨ρ',⟨B.tmps,fun t A=>(B.at_ t ((H t).2 A)).trans (H t).1.symm⟩,by rw [B.defers];exact h2⟩
 . exact dz List.count_le_length sM
 . have e:(zBX ops t).bind (fun _=>none)=(none:Option Value):=by cases zBX ops t<;>rfl
   rw [e] at A;rcases A with A | A
   . rw [G.at_ t A,slot,e];rfl
   . cases A
def code (ops:List Oper) (i t:Nat):Nat:=match zBX ops t with | some j=>if waits ops i j=true then 2*(i-1-j)+1 else 2*t | none=>2*t
def sight (ops:List Oper) (i:Nat) (ts:List Nat):List Nat:=ts.map (code ops i)
def zGU (ops:List Oper) (n:Nat):List (List Nat):=(List.range n).map fun i=>sight ops i ((ops[i]?.map (seesL ops)).getD [])
abbrev Facts:=List (Nat×Fact)
def KnowP (Φs:Facts) (ρ:Env) (w:World) (σ:Nat->Value):List Nat->Prop
 | []=>True
 | c :: l=>(match c%2 with
  | 0=>σ (c/2)=look1 ρ (c/2)
  | _=>match Φs[c/2]? with | some (t,Φ)=>Φ (σ t) w | none=>True)/\KnowP Φs ρ w σ l
def zDw:Facts->List Oper->Env->World->(Env->Prop)->Prop
 | (_,Φ) :: Φs,o :: os,ρ,w,K=>∀ v,Φ v w->zDw Φs os (ext ρ o.dst v) w K
 | _,_,ρ,_,K=>K ρ
def blkOf:Value->Option Nat
 | .slice (some a) _ _=>some a.block
 | .pointer (some a)=>some a.block
 | _=>none
def zTa (w w':World) (v:Value):Prop:=∀ b,blkOf v=some b->w.heap.size<=b/\b<w'.heap.size
abbrev Defs:=List (Nat×((Nat->Value)->Value))
def Xtra (fl:List Nat) (df:Defs) (i:Nat) (σ:Nat->Value) (w w':World) (v:Value):Prop:=(i∈fl->zTa w w' v)/\∀ g,(i,g)∈df->v=g σ
def zDd (fl:List Nat) (df:Defs) (i:Nat):Prop:=i∈fl\/i∈df.map (·.1)
instance (fl:List Nat) (df:Defs) (i:Nat):Decidable (zDd fl df i):=by unfold zDd;infer_instance
theorem Xtra.none {df:Defs} {σ:Nat->Value} (h:¬ zDd fl df i):Xtra fl df i σ w w' v :=
 ⟨fun e=>absurd (.inl e) h,fun _ A=>absurd (.inr (gI.2 ⟨_,A,rfl⟩)) h⟩
theorem Xtra.new {df:Defs} {σ:Nat->Value} (e:i ∉ df.map (·.1)) (h:zTa w w' v):Xtra fl df i σ w w' v :=
 ⟨fun _=>h,fun _ A=>absurd (gI.2 ⟨_,A,rfl⟩) e⟩
theorem Xtra.one {g:(Nat->Value)->Value} {σ:Nat->Value} (e:i ∉ fl) (h:v=g σ):Xtra fl [(i,g)] i σ w w' v :=
 ⟨fun h=>absurd h e,fun g' hg=>by obtain ⟨_,rfl⟩:=gX (dI.1 hg);exact h⟩
def zEr (ops:List Oper) (df:Defs):Prop:=∀ i g,(i,g)∈df->∀ o,ops[i]? = some o->(∀ t∈seesL ops o,∃ j,zBX ops t=some j/\waits ops i j=true)/\∀ σ σ':Nat->Value,(∀ t∈seesL ops o,σ t=σ' t)->g σ=g σ'
def okDef (ops:List Oper) (i:Nat) (ts:List Nat):Bool:=match ops[i]? with
 | some o=>(seesL ops o).all (fun t=>match zBX ops t with | some j=>waits ops i j | none=>false)&&ts.all fun t=>(seesL ops o).contains t
 | none=>false
theorem zEr.nil:zEr ops []:=fun i g h=>by cases h
theorem zEr.cons {df:Defs} (ts:List Nat) (f:List Value->Value) (h:okDef ops i ts=true) (B:zEr ops df):zEr ops ((i,fun σ=>f (ts.map σ)) :: df):=fun k g C o ho=>by
 rcases eY.1 C with e | e
 . cases e;unfold okDef at h;rw [ho] at h;simp only [ee,eZ] at h;refine ⟨fun t A => ?_,fun σ σ' F=>cW f (List.map_congr_left fun t A=>F t (by simpa using h.2 t A))⟩;have:=h.1 t A;cases hw:zBX ops t with
   | none=>rw [hw] at this;cases this
   | some j=>rw [hw] at this;exact ⟨j,rfl,this⟩
 . exact B k g e o ho
def Eff (ss:List StoreSpec) (i:Nat) (w w':World):Prop:=ExtS ((ss.filter (·.idx==i)).map (·.blk)) w w'/\∀ s∈ss,s.idx=i->s.post w'
def Obl (P:Program) (r:Option Nat) (ss:List StoreSpec) (b:Bool) (fl:List Nat) (df:Defs) (ρ:Env) (w0:World) (i:Nat) (Φs:Facts) (o:Oper) (e:List Nat) (Φ:Fact):Prop :=
 ∀ (σ:Nat->Value) (w:World),ExtS (ss.map (·.blk)) w0 w->(∀ s∈ss,(b=true/\i<s.idx\/i=s.idx)->s.pre w)->KnowP Φs ρ w σ e->Runs P r o (lookσ σ) w (fun v w'=>Eff ss i w w'/\Φ v w'/\Xtra fl df i σ w w' v)
def dRun (P:Program) (r:Option Nat) (ss:List StoreSpec) (b:Bool) (fl:List Nat) (df:Defs) (ρ:Env) (w0:World):Nat->List Oper->List (List Nat)->Facts->(Facts->Prop)->Prop
 | _,[],_,Φs,K=>K Φs
 | i,o :: os,e :: es,Φs,K=>∃ Φ:Fact,(∀ v w w',ExtS (ss.map (·.blk)) w0 w->ExtS (ss.map (·.blk)) w w'->Φ v w->Φ v w')/\Obl P r ss b fl df ρ w0 i Φs o e Φ/\dRun P r ss b fl df ρ w0 (i+1) os es ((o.dst.getD 0,Φ) :: Φs) K
 | _,_ :: _,[],_,_=>False
variable {ss:List StoreSpec} {b:Bool} {df:Defs}
theorem zQb {K:Facts->Prop}:∀ (os:List Oper) (es:List (List Nat)) (k:Nat) (Φs:Facts),dRun P r ss b fl df ρ w0 k os es Φs K ->
 ∃ A:Facts,A.length=os.length/\K (A.reverse++Φs)/\∀ (i:Nat) (o:Oper),os[i]? = some o->∃ Φ e,A[i]? = some (o.dst.getD 0,Φ)/\es[i]? = some e/\(∀ v w w',ExtS (ss.map (·.blk)) w0 w->ExtS (ss.map (·.blk)) w w'->Φ v w->Φ v w')/\Obl P r ss b fl df ρ w0 (k+i) ((A.take i).reverse++Φs) o e Φ
 | [],es,k,Φs,h=>⟨[],rfl,h,fun i o B=>by simp at B⟩
 | o :: os,[],k,Φs,h=>h.elim
 | o :: os,e :: es,k,Φs,⟨Φ,H,C,h⟩=>by
  obtain ⟨A,I,M,O⟩:=zQb os es (k+1) _ h;refine ⟨(o.dst.getD 0,Φ) :: A,by simp [I],by simpa using M,fun i U B => ?_⟩;cases i with
  | zero=>cases B;exact ⟨Φ,e,rfl,rfl,H,C⟩
  | succ i =>
   obtain ⟨F,V,X,Y,Z,G⟩:=O i U B;rw [Nat.add_right_comm] at G;refine ⟨F,V,X,Y,Z,?_⟩;rw [List.take_succ_cons,List.reverse_cons,dU];exact G
theorem zOC {K K':Facts->Prop} (h:∀ Φs,K Φs->K' Φs):∀ (os:List Oper) (es:List (List Nat)) (k:Nat) (Φs:Facts),dRun P r ss b fl df ρ w0 k os es Φs K->dRun P r ss b fl df ρ w0 k os es Φs K'
 | [],_,_,_,e=>h _ e
 | _ :: _,[],_,_,e=>e.elim
 | _ :: os,_ :: es,k,_,⟨Φ,e,A,B⟩=>⟨Φ,e,A,zOC h os es (k+1) _ B⟩
theorem zLy {o:Oper} (e:i<n) (h:ops[i]? = some o):(zGU ops n)[i]? = some (sight ops i (seesL ops o)):=by
 simp [zGU,e,h]
theorem Eff.ext (h:Eff ss i w w'):ExtS (ss.map (·.blk)) w w':=h.1.mono fun k A=>by
 obtain ⟨s,B,e⟩:=gI.1 A;exact gI.2 ⟨s,(List.mem_filter.1 B).1,e⟩
theorem zOi:∀ {l:List StoreSpec},(l.map (·.blk)).Nodup->∀ s∈l,∀ A∈l,A.blk=s.blk->A=s
 | a :: l,h,s,I,A,B,e=>by
  rw [fi,List.nodup_cons] at h;rcases eY.1 I with C | F<;>rcases eY.1 B with G | H
  . rw [C,G]
  . exact absurd (gI.2 ⟨A,H,e.trans (by rw [C])⟩) h.1
  . exact absurd (gI.2 ⟨s,F,e.symm.trans (by rw [G])⟩) h.1
  . exact zOi h.2 s F A H e
def StOk (ss:List StoreSpec) (ops:List Oper) (b:Bool) (w0:World):Prop:=(ss.map (·.blk)).Nodup/\∀ s∈ss,(b=true->∀ i,i<s.idx->waits ops s.idx i=true)/\s.blk<w0.heap.size/\s.pre w0 /\
 ∀ w w',ExtS (ss.map (·.blk)) w0 w->ExtS (ss.map (·.blk)) w w'->w'.heap[s.blk]? = w.heap[s.blk]?->(s.pre w->s.pre w')/\(s.post w->s.post w')
def dstOf (ops:List Oper) (i:Nat):Option Tmp:=(ops[i]?).bind (·.dst)
def SepE (ops:List Oper) (fl:List Nat) (df:Defs) (ρ:Env):Prop :=
 (∀ i∈fl,∀ j∈fl,i≠j->∀ d e,dstOf ops i=some d->dstOf ops j=some e->∀ b,blkOf (look1 ρ d)=some b->blkOf (look1 ρ e)≠some b) /\
 (∀ i g,(i,g)∈df->∀ d,dstOf ops i=some d->look1 ρ d=g (look1 ρ))
def Seen (ops:List Oper) (Φs:Facts) (ρ:Env) (w:World) (σ:Nat->Value) (i t:Nat):Prop:=match zBX ops t with
 | some j=>if waits ops i j=true then match Φs[i-1-j]? with | some (t',Φ)=>Φ (σ t') w | none=>True else σ t=look1 ρ t
 | none=>σ t=look1 ρ t
theorem zMz {Φs:Facts} {w:World} {i:Nat} {σ:Nat->Value}:∀ {ts:List Nat},KnowP Φs ρ w σ (sight ops i ts)↔∀ t∈ts,Seen ops Φs ρ w σ i t
 | []=>by simp [sight,KnowP]
 | t :: ts=>by
  have h:(match (code ops i t)%2 with
   | 0=>σ (code ops i t/2)=look1 ρ (code ops i t/2)
   | _=>match Φs[code ops i t/2]? with | some (t,Φ)=>Φ (σ t) w | none=>True)↔Seen ops Φs ρ w σ i t:=by
   unfold code Seen;cases A:zBX ops t with
   | none=>simp
   | some j =>
    by_cases e:waits ops i j=true
    . simp only [e,ga,show (2*(i-1-j)+1)%2=1 from by omega,show (2*(i-1-j)+1)/2=i-1-j from by omega]
    . simp [e]
  simp only [sight,fi,KnowP,List.forall_mem_cons];exact and_congr h zMz
def Agree (ops:List Oper) (ρ ρ':Env) (f:Vals):Prop:=∀ t,look1 ρ' t=slot ops ρ f t/\(t∈dom ρ'->t∈dom ρ\/((zBX ops t).bind f).isSome=true)
theorem Agree.ext (A:DrawOk ops ρ N) {f:Vals} (h:Agree ops ρ ρ' f) {o:Oper} (B:ops[i]? = some o) (v:Value):Agree ops ρ (ext ρ' o.dst v) (upd f i v):=fun t=>by
 obtain ⟨C,F⟩:=A.slot_upd B f v t;rw [C,F];cases hd:o.dst with
 | none=>exact ⟨by simpa [Go.Proofs.YtjiendlfobjanaaGreatDoor.ext] using (h t).1,fun e=>((h t).2 e).imp_right .inr⟩
 | some d =>
  simp only [Go.Proofs.YtjiendlfobjanaaGreatDoor.ext,look1,dom,fi,eY,Option.some.injEq,eq_comm (a:=d)];refine ⟨by split;rfl;exact (h t).1,fun e => ?_⟩;rcases e with e | e
  . exact .inr (.inl e)
  . exact ((h t).2 e).imp_right .inr
theorem zOR (H:DrawOk ops ρ N) {w:World} {K:Env->Prop} {g:Vals}:∀ (os:List Oper) (Φs:Facts) (i:Nat) (ρ':Env),(∀ k o,os[k]? = some o->ops[i+k]? = some o)->Φs.length=os.length ->
 (∀ k d Φ,Φs[k]? = some (d,Φ)->∃ v,g (i+k)=some v/\Φ v w)->Agree ops ρ ρ' (fun k=>if k<i then g k else none)->zDw Φs os ρ' w K->∃ A,Agree ops ρ A (fun k=>if k<i+os.length then g k else none)/\K A
 | [],[],i,ρ',_,_,_,B,h=>⟨ρ',B,h⟩
 | [],_ :: _,i,ρ',_,C,_,B,h=>by cases C
 | o :: os,[],i,ρ',_,C,_,B,h=>by cases C
 | o :: os,(d,Φ) :: Φs,i,ρ',I,C,M,B,h=>by
  obtain ⟨v,O,G⟩:=M 0 d Φ rfl;have hs:∀ k,i+1+k=i+(k+1):=fun k=> oM
  have e:upd (fun k=>if k<i then g k else none) i v=fun k=>if k<i+1 then g k else none:=funext fun k=>by
   unfold upd;by_cases F:k=i
   . subst F;simpa using O.symm
   . simp only [ct F,show k<i+1↔k<i from by omega]
  obtain ⟨A,F,U⟩:=zOR H os Φs (i+1) (Go.Proofs.YtjiendlfobjanaaGreatDoor.ext ρ' o.dst v) (fun k o' hk=>by rw [hs];exact I (k+1) o' hk) (Nat.succ.inj C) (fun k d' Φ' hk=>by rw [hs];exact M (k+1) d' Φ' hk)
   (by rw [<- e];exact B.ext H (I 0 o rfl) v) (h v G)
  rw [hs] at F;exact ⟨A,F,U⟩
def zRt (P:Program) (r:Option Nat) (ss:List StoreSpec) (b:Bool) (fl:List Nat) (df:Defs) (ops:List Oper) (ρ:Env) (w0:World) (n0:Nat) (e:Facts):Prop :=
 e.length=n0/\∀ i o,ops[i]? = some o->i<n0->∃ Φ,e[i]? = some (o.dst.getD 0,Φ)/\(∀ v w w',ExtS (ss.map (·.blk)) w0 w->ExtS (ss.map (·.blk)) w w'->Φ v w->Φ v w')/\Obl P r ss b fl df ρ w0 i (e.take i).reverse o (sight ops i (seesL ops o)) Φ
structure PhA (ss:List StoreSpec) (fl:List Nat) (df:Defs) (ops:List Oper) (ρ:Env) (w0:World) (n0:Nat) (Ψs:Facts) (f:Vals) (w:World):Prop where
 no:∀ j,n0<=j->f j=none
 ext:ExtS (ss.map (·.blk)) w0 w
 val:∀ i v,f i=some v->∀ d Φ,Ψs[i]? = some (d,Φ)->Φ v w
 sto:∀ s∈ss,if (f s.idx).isSome=true then s.post w else s.pre w
 fr:∀ i∈fl,∀ v b,f i=some v->blkOf v=some b->b<w.heap.size
 ne:∀ i∈fl,∀ j∈fl,i≠j->∀ u v b,f i=some u->f j=some v->blkOf u=some b->blkOf v≠some b
 df:∀ i g,(i,g)∈df->∀ v,f i=some v->v=g (slot ops ρ f)
theorem PhA.step (ok:DrawOk ops ρ N) {X:Facts} (hn:n0<=ops.length) (Y:zRt P r ss b fl df ops ρ w0 n0 X) (ai:StOk ss ops b w0) (Z:zEr ops df) {f:Vals} (h:PhA ss fl df ops ρ w0 n0 X f w)
 {o:Oper} (ho:ops[i]? = some o) (hi:i<n0) (hr:Ready ops f i) {σ:Nat->Value} (aq:∀ t∈seesL ops o,σ t=slot ops ρ f t):Runs P r o (lookσ σ) w (fun v w'=>PhA ss fl df ops ρ w0 n0 X (upd f i v) w'):=by
 obtain ⟨Φ,aF,aQ,aG⟩:=Y.2 i o ho hi;obtain ⟨aa,hw,ar⟩:=hr;have hlater:∀ j,waits ops j i=true->f j=none:=fun j C=>by
  cases hf:f j with
  | none=>rfl
  | some v=>have:=ar j i (by rw [hf];rfl) C;rw [aa] at this;cases this
 obtain ⟨-,-,-,-,U,ax⟩:=ok.op i o ho;have hop:∀ j u,f j=some u->∃ oj,ops[j]? = some oj:=fun j u G=>by
  have C:j<n0:=Nat.lt_of_not_le fun C=>by rw [h.no j C] at G;cases G
  exact ⟨ops[j],cY oM⟩
 refine (aG σ w h.ext (fun s hs hc => ?_) (zMz.2 fun t ht => ?_)).mono fun v w' ⟨he,hv,V⟩ => ?_
 . have A:=h.sto s hs;have:f s.idx=none:=by
    rcases hc with ⟨F,h3⟩ | F
    . exact hlater _ ((ai.2 s hs).1 F i h3)
    . rw [<- F];exact aa
   rw [this] at A;exact A
 . have A:=ax t ht;have F:=aq t ht;unfold slot at F;unfold Seen;cases hwt:zBX ops t with
   | none=>rw [hwt] at F;exact F
   | some j =>
    rw [hwt] at A F;simp only at A ⊢;by_cases V:waits ops i j=true
    . rw [cD V];obtain ⟨v,hv⟩:=gq.1 (hw j V);obtain ⟨oj,aH,aI⟩:=zEp hwt;have aJ:=U j V;obtain ⟨aK,O,-⟩:=Y.2 j oj aH oM;rw [aI] at O;have hl:(X.take i).length=i:=by rw [eW,Y.1];omega
      rw [List.getElem?_reverse oM,hl,show i-1-(i-1-j)=j from by omega,List.getElem?_take_of_lt aJ,O];show aK (σ t) w;rw [F];simpa [hv] using h.val j v hv _ _ O
    . rw [ct V];have aM:f j=none:=by
       rcases A with A | ⟨A | A,-⟩
       . exact absurd A V
       . exact hlater j A
       . rw [<- A];exact aa
      simpa [aM] using F
 . have hE:=he.ext;have hsz:=hE.size;have M:∀ k u,upd f i v k=some u->(k=i/\u=v)\/(k≠i/\f k=some u):=fun k u B=>by
    unfold upd at B;by_cases e:k=i
    . rw [cD e] at B;exact .inl ⟨e,(dj B).symm⟩
    . rw [ct e] at B;exact .inr ⟨e,B⟩
   refine ⟨fun j C => ?_,h.ext.trans hE,fun k u B d a0 H => ?_,fun s hs => ?_,fun k B u c G hc => ?_,fun k B j C au u u' c G aN hc => ?_,fun k g hg u G => ?_⟩
   . rw [upd,ct oM];exact h.no j C
   . rcases M k u B with ⟨rfl,rfl⟩ | ⟨av,B⟩
     . rw [aF] at H;cases H;exact hv
     . obtain ⟨ab,I⟩:=hop k u B;have hkn:k<n0:=Nat.lt_of_not_le fun C=>by rw [h.no k C] at B;cases B
       obtain ⟨a9,A,F,-⟩:=Y.2 k ab I hkn;rw [A] at H;cases H;exact F u w w' h.ext hE (h.val k u B _ _ A)
   . have A:=h.sto s hs;by_cases e:s.idx=i
     . simp only [upd,e,ga,Option.isSome_some];exact he.2 s hs e
     . simp only [upd,ct e];obtain ⟨-,F,-,h3⟩:=ai.2 s hs;have h4:=h3 w w' h.ext hE (he.1.block _ (fm F h.ext.size) fun B=>by
        obtain ⟨s',aj,e'⟩:=gI.1 B;obtain ⟨aj,e2⟩:=List.mem_filter.1 aj;rw [zOi ai.1 s hs s' aj e'] at e2;exact e (by simpa using e2))
       split
       . rename_i h5;rw [cD h5] at A;exact h4.2 A
       . rename_i h5;rw [ct h5] at A;exact h4.1 A
   . rcases M k u G with ⟨rfl,rfl⟩ | ⟨-,G⟩
     . exact (V.1 B c hc).2
     . exact fm (h.fr k B u c G hc) hsz
   . rcases M k u G with ⟨e1,e2⟩ | ⟨-,h3⟩<;>rcases M j u' aN with ⟨e3,e4⟩ | ⟨-,h4⟩
     . exact absurd (e1.trans e3.symm) au
     . intro ak;have A:=(V.1 (e1 ▸ B) c (e2 ▸ hc)).1;have F:=h.fr j C u' c h4 ak;omega
     . intro ak;have A:=(V.1 (e3 ▸ C) c (e4 ▸ ak)).1;have F:=h.fr k B u c h3 hc;omega
     . exact h.ne k B j C au u u' c h3 h4 hc
   . have aw:∀ t j,zBX ops t=some j->j≠i->slot ops ρ (upd f i v) t=slot ops ρ f t:=fun t j C av=>by
      rw [(ok.slot_upd ho f v t).1,ct];intro hd;rw [(ok.wr ho).2 hd] at C;exact av (dj C).symm
     rcases M k u G with ⟨rfl,e⟩ | ⟨-,G⟩
     . refine e.trans ((V.2 g hg).trans ?_);refine (Z k g hg o ho).2 _ _ fun t ht => ?_;obtain ⟨j,C,al⟩:=(Z k g hg o ho).1 t ht;rw [aq t ht,aw t j C (fv (U j al))]
     . obtain ⟨ab,I⟩:=hop k u G;rw [h.df k g hg u G];refine (Z k g hg ab I).2 _ _ fun t ht => ?_;obtain ⟨j,C,al⟩:=(Z k g hg ab I).1 t ht;refine (aw t j C fun e => ?_).symm;have:=ar k j (by rw [G];rfl) al;rw [e,aa] at this;cases this
def reach (ops:List Oper):Nat->Nat->Nat->Bool
 | 0,j,i=>waits ops j i
 | f+1,j,i=>waits ops j i || (List.range ops.length).any fun k=>waits ops j k&&reach ops f k i
theorem zME {f:Vals} (A:∀ k i,(f k).isSome=true->waits ops k i=true->(f i).isSome=true):∀ (n j i:Nat),(∀ y,waits ops j y=true->(f y).isSome=true)->reach ops n j i=true->(f i).isSome=true
 | 0,j,i,h,e=>h i e
 | n+1,j,i,h,e=>by
  simp only [reach,iw,ig,ee] at e;rcases e with e | ⟨k,-,B,C⟩
  . exact h i e
  . exact zME A n k i (fun y F=>A k y (h k B) F) C
def zJR (ops:List Oper) (n0:Nat) (e:Option Nat):Bool :=
 decide (n0<=ops.length)&&((List.range ops.length).all fun j=>decide (j<=n0) || waits ops j (j-1))&&(decide (ops.length<=n0) || (List.range n0).all fun i=>reach ops 6 n0 i || e==some i) &&
  match e with
  | none=>true
  | some i=>decide (i<n0)&&match ops[i]? with | some o=>zKd o&&o.dst.all (fun d => !(seesL ops o).contains d) | none=>false
theorem zHe {o:Oper} {σ σ':Nat->Value} (h:∀ t∈seesL ops o,σ t=σ' t) (A:zKd o=true):pureV o σ=pureV o σ':=by
 have e:∀ x∈o.op.operands,lookσ σ x=lookσ σ' x:=fun x hx=>by
  cases x with
  | tmp t=>exact h t (gK _ (zGp (by simpa using hx)))
  | _=>rfl
 unfold pureV;unfold zKd at A;cases B:o.op<;>rw [B] at A e<;>simp at A
 case extract x i=>simp only [e x (by simp [Op.operands])]
 case move x=>simp only [e x (by simp [Op.operands])]
def PhB (P:Program) (r:Option Nat) (ops:List Oper) (ρ:Env) (n0:Nat) (e:Option Nat) (h:Env->World->Prop) (f:Vals) (w:World):Prop :=
 ∃ (k:Nat) (g:Vals) (ρ':Env),n0<=k/\(∀ j,n0<=j->((f j).isSome=true↔j<k))/\(∀ i v,f i=some v->g i=some v)/\(∀ i,k<=i->g i=none)/\Agree ops ρ ρ' g /\
  (∀ i,i<n0->f i=none->e=some i/\∃ o v,ops[i]? = some o/\zKd o=true/\g i=some v/\pureV o (slot ops ρ g)=some v)/\zAX P r ops (ops.drop k) ρ' w h
theorem PhB.step (U:DrawOk ops ρ N) {fo:Option Nat} (hn:n0<=ops.length) (ap:∀ j,j<ops.length->n0<j->waits ops j (j-1)=true)
 (aq:∀ i o,fo=some i->ops[i]? = some o->∀ d,o.dst=some d->d ∉ seesL ops o) {KQ:Env->World->Prop} {f:Vals} (h:PhB P r ops ρ n0 fo KQ f w)
 {o:Oper} (M:ops[i]? = some o) (hr:Ready ops f i) {σ:Nat->Value} (ar:∀ t∈seesL ops o,σ t=slot ops ρ f t):Runs P r o (lookσ σ) w (fun v w'=>PhB P r ops ρ n0 fo KQ (upd f i v) w'):=by
 obtain ⟨k,g,ρ',hk,G,X,Y,ha,H,F⟩:=h;obtain ⟨O,hw,au⟩:=hr;have Z:=(dY.1 M).1;obtain ⟨-,ah,ai,av,aB,aj⟩:=U.op i o M;have hlater:∀ j,waits ops j i=true->f j=none:=fun j B=>by
  cases hf:f j with
  | none=>rfl
  | some v=>have:=au j i (by rw [hf];rfl) B;rw [O] at this;cases this
 -- what the operation sees is what it would see behind all others
 have ae:∀ t∈seesL ops o,σ t=slot ops ρ g t:=fun t ht=>by
  rw [ar t ht];have C:=aj t ht;unfold slot;cases hwt:zBX ops t with
  | none=>rfl
  | some j =>
   rw [hwt] at C;simp only [Option.bind_some];cases A:f j with
   | some v=>rw [X j v A]
   | none =>
    have aw:n0<=j->g j=none:=fun V=>Y j (ft fun h3=>by have:=(G j V).2 h3;rw [A] at this;cases this);rcases dR j n0 with V | V
    . obtain ⟨e1,oj,v,I,-⟩:=H j V A;rcases C with C | ⟨C | C,-⟩
      . have:=hw j C;rw [A] at this;cases this
      . have aK:=(U.op j oj I).2.2.2.2.1 i C;obtain ⟨e2,-⟩:=H i oM O;rw [e1] at e2;cases e2;omega
      . subst C;exact absurd ht (aq i o e1 M t ((U.wr M).1 hwt))
    . rw [aw V]
 rcases dR i n0 with hi | hi
 . obtain ⟨e,o',v,ax,hp,ay,aa⟩:=H i hi O;cases M.symm.trans ax;refine (zOz hp).2 ⟨v,by rw [zHe ae hp];exact aa,k,g,ρ',hk,fun j B => ?_,fun j u B => ?_,Y,ha,fun j B A => ?_,F⟩
   . rw [upd,ct oM];exact G j B
   . unfold upd at B;split at B
     . rename_i e;rw [e,ay];exact B
     . exact X j u B
   . unfold upd at A;split at A
     . cases A
     . exact H j B A
 . have az:k=i:=by
    have C:¬ i<k:=fun h=>by have:=(G i hi).2 h;rw [O] at this;cases this
    rcases dR n0 i with V | V
    . have h3:=hw _ (ap i Z V);have:=(G (i-1) oM).1 h3;omega
    . omega
   subst az;rw [dZ Z,show ops[k]=o from by simpa [Z] using M] at F;have hwn:zEo ops o ρ'=true:=by unfold zEo;rw [av]
   simp only [zAX,hwn,ga] at F;refine (Runs.congr ah ai (fun x hx => ?_) F).mono fun v w' hv=>⟨k+1,upd g k v,_,oM,fun j B => ?_,fun j u B => ?_,fun j B => ?_,ha.ext U M v,fun j B A => ?_,hv⟩
   . cases x with
     | tmp t=>rw [lookσ,ae t (gK _ (zGp (by simpa using hx)))];exact (ha t).1
     | _=>rfl
   . unfold upd;split
     . simp;omega
     . rw [G j B];omega
   . unfold upd at B ⊢;split at B
     . rename_i e;rw [cD e];exact B
     . rename_i e;rw [ct e];exact X j u B
   . rw [upd,ct oM];exact Y j oM
   . rw [upd,ct oM] at A;obtain ⟨e,oj,u,I,hp,aA,aa⟩:=H j B A;refine ⟨e,oj,u,I,hp,by rw [upd,ct oM];exact aA,?_⟩;rw [<- aa];refine zHe (ops:=ops) (fun t ht => ?_) hp;rw [(U.slot_upd M g v t).1,ct];intro hd;have C:=(U.op j oj I).2.2.2.2.2 t ht;rw [(U.wr M).2 hd] at C;rcases C with C | ⟨C | C,-⟩
     . have:=(U.op j oj I).2.2.2.2.1 k C;omega
     . have:=hw j C;rw [A] at this;cases this
     . omega
theorem zTX {Q:Post} (ss:List StoreSpec) (b:Bool) (fl:List Nat) (df:Defs) (fo:Option Nat) (A tail:List Oper) (an:ops=A++tail) (hm:P.follows .mixedOrders=true) (aQ:zJQ ops ρ N=true) (aw:zJR ops A.length fo=true)
 (ai:StOk ss ops b w0) (ax:zEr ops df) (aR:∀ i,zDd fl df i->i<A.length)
 (h:∀ K:Facts->Prop,(∀ Φs,(∀ w',ExtS (ss.map (·.blk)) w0 w'->(∀ s∈ss,s.idx<A.length->s.post w')->zDw Φs.reverse A ρ w' (fun ρ'=>SepE ops fl df ρ'->zAX P r ops tail ρ' w' (fun F I=>Q .normal F δ I)))->K Φs) ->
  dRun P r ss b fl df ρ w0 0 A (zGU ops A.length) [] K):WPE P r N (.region id ops.toArray true) Q δ ρ w0:=by
 have ok:=zOk aQ;obtain ⟨aa,hl,hK,ay⟩:=zQb A _ 0 [] (h _ fun _ h=>h);simp only [fu,List.reverse_reverse,dW] at hK ay;have hlen:ops.length=A.length+tail.length:=by rw [an];simp
 have az:∀ i,i<A.length->ops[i]? = A[i]? := fun i U=>by rw [an,eS U]
 have aA:zRt P r ss b fl df ops ρ w0 A.length aa:=⟨hl,fun i o X U=>by
  obtain ⟨Φ,e,H,V,h3,h4⟩:=ay i o (by rw [<- az i U];exact X);rw [zLy U X] at V;cases V;exact ⟨Φ,H,h3,h4⟩⟩
 simp only [zJR,ee,eA,eZ,List.mem_range,iw,ge] at aw;obtain ⟨⟨⟨hn,aS⟩,aU⟩,ao⟩:=aw;have hch':∀ j,j<ops.length->A.length<j->waits ops j (j-1)=true:=fun j hj aB=>(aS j hj).resolve_left oM;have hpu:∀ i,fo=some i->i<A.length/\∀ o,ops[i]? = some o->zKd o=true/\∀ d,o.dst=some d->d ∉ seesL ops o:=fun i e=>by
  subst e;simp only [ee,eA] at ao;refine ⟨ao.1,fun o X => ?_⟩;have V:=ao.2;rw [X] at V;simp only [ee] at V;refine ⟨V.1,fun d Z => ?_⟩;have h3:=V.2;rw [Z] at h3;simpa using h3
 -- behind the first operations
 have ap:∀ g w,PhA ss fl df ops ρ w0 A.length aa g w->(∀ i,i<A.length->(g i).isSome=true)->∃ ρ',Agree ops ρ ρ' g/\zAX P r ops tail ρ' w (fun F I=>Q .normal F δ I):=fun g w O B=>by
  have hg:(fun k=>if k<0+A.length then g k else none)=g:=funext fun k=>by
   split
   . rfl
   . exact (O.no k oM).symm
  obtain ⟨ρ',H,V⟩:=zOR (g:=g) ok A aa 0 ρ (fun k o C=>by rw [dW,az k (dY.1 C).1];exact C) hl (fun k d Φ C=>by
   obtain ⟨v,hv⟩:=gq.1 (B k (by rw [<- hl];exact (dY.1 C).1));exact ⟨v,by rw [dW];exact hv,O.val k v hv d Φ C⟩)
   (fun t=>by
    have:(zBX ops t).bind (fun k=>if k<0 then g k else none)=(none:Option Value):=by cases zBX ops t<;>simp
    simp only [slot,this];exact ⟨rfl,.inl⟩) (hK w O.ext fun s hs aB=>by have:=O.sto s hs;rw [cD (B _ aB)] at this;exact this)
  rw [hg] at H;have aC:look1 ρ'=slot ops ρ g:=funext fun t=>(H t).1;have Z:∀ i,zDd fl df i->∀ d,dstOf ops i=some d->∃ v,g i=some v/\look1 ρ' d=v:=fun i U d Z=>by
   obtain ⟨v,hv⟩:=gq.1 (B i (aR i U));obtain ⟨o,X,aV⟩:=Option.bind_eq_some_iff.1 Z;exact ⟨v,hv,by rw [aC,slot,(ok.wr X).2 aV];simp [hv]⟩
  refine ⟨ρ',H,V ⟨fun i U j hj aW d e aq aX c hc => ?_,fun i g' aD d aq => ?_⟩⟩
  . obtain ⟨u,hu,e1⟩:=Z i (.inl U) d aq;obtain ⟨v,hv,e2⟩:=Z j (.inl hj) e aX;rw [e1] at hc;rw [e2];exact O.ne i U j hj aW u v c hu hv hc
  . obtain ⟨u,hu,e1⟩:=Z i (.inr (gI.2 ⟨_,aD,rfl⟩)) d aq;rw [e1,aC];exact O.df i g' aD u hu
 have aE:ops.drop A.length=tail:=by rw [an];simp
 refine wpe_core hm ok (J:=fun f w=>PhA ss fl df ops ρ w0 A.length aa f w\/PhB P r ops ρ A.length fo (fun F I=>Q .normal F δ I) f w) (.inl ?_) (fun f w i o hJ X hr σ hσ => ?_) (fun f w B hJ => ?_)
 . have Z:ExtS (ss.map (·.blk)) w0 { w0 with drawn:=w0.drawn+1 }:=(Ext.drawn _).toS _
   exact ⟨fun _ _=>rfl,Z,fun i v e=>by (cases e),fun s hs=>(((ai.2 s hs).2.2.2 w0 _ (ExtS.refl _ _) Z rfl).1 (ai.2 s hs).2.2.1),fun i _ v c e=>by (cases e),fun i _ j _ _ u v c e=>by (cases e),fun i g _ v e=>by (cases e)⟩
 . have ad:PhB P r ops ρ A.length fo (fun F I=>Q .normal F δ I) f w->Runs P r o (lookσ σ) w (fun v w'=>PhA ss fl df ops ρ w0 A.length aa (upd f i v) w'\/PhB P r ops ρ A.length fo (fun F I=>Q .normal F δ I) (upd f i v) w') :=
    fun h=>(PhB.step ok hn hch' (fun i o e X=>((hpu i e).2 o X).2) h X hr hσ).mono fun _ _ h => .inr h
   rcases hJ with O | hB
   . rcases dR i A.length with U | U
     . exact (O.step ok hn aA ai ax X U hr hσ).mono fun _ _ h => .inl h
     . have aY:i=A.length:=Nat.le_antisymm (ft fun H=>by
        have:=hr.2.1 _ (hch' i (dY.1 X).1 H);rw [O.no (i-1) oM] at this;cases this) U
       subst aY;have ae:∀ j,j<A.length->(f j).isSome=true\/fo=some j:=fun j hj=>by
        rcases aU with H | H
        . have:=(dY.1 X).1;omega
        . exact (H j hj).imp_left (zME hr.2.2 6 _ j hr.2.1)
       refine ad ?_;by_cases hf:∃ j,fo=some j/\f j=none
       . obtain ⟨j,e,aF⟩:=hf;obtain ⟨hj,hp⟩:=hpu j e;have ab:ops[j]? = some ops[j]:=cY oM;obtain ⟨hp,aZ⟩:=hp _ ab;have M:∀ k,k<A.length->k≠j->(f k).isSome=true:=fun k C hne=>(ae k C).resolve_right fun e2=>hne (by rw [e] at e2;exact (dj e2).symm);have hrj:Ready ops f j:=⟨aF,fun k C=>by
          have:=(ok.op j _ ab).2.2.2.2.1 k C;exact M k oM oM,hr.2.2⟩
         obtain ⟨v,hv,a0⟩:=(zOz hp).1 (O.step ok hn aA ai ax ab hj hrj (σ:=slot ops ρ f) fun _ _=>rfl);obtain ⟨ρ',ha,G⟩:=ap _ _ a0 fun k C=>by
          unfold upd;split
          . rfl
          . rename_i H;exact M k C H
         refine ⟨A.length,_,ρ',cX _,fun k C=>by rw [O.no k C];simp;omega,fun k u C => ?_,fun k C=>by rw [upd,ct oM];exact O.no k C,ha,fun k C Y => ?_,by rw [aE];exact G⟩
         . rw [upd,ct (fun e=>by rw [e,aF] at C;cases C)];exact C
         . have:k=j:=fH fun H=>by have:=M k C H;rw [Y] at this;cases this
           subst this;refine ⟨e,_,v,ab,hp,by simp [upd],?_⟩;rw [<- hv];refine zHe (ops:=ops) (fun t ht => ?_) hp;rw [(ok.slot_upd ab f v t).1,ct (fun Z=>aZ t Z ht)]
       . have B:∀ k,k<A.length->(f k).isSome=true:=fun k C=>by
          rcases ae k C with H | H
          . exact H
          . cases V:f k with
            | some _=>rfl
            | none=>exact absurd ⟨k,H,V⟩ hf
         obtain ⟨ρ',ha,G⟩:=ap f w O B;exact ⟨A.length,f,ρ',cX _,fun k C=>by rw [O.no k C];simp;omega,fun _ _ h=>h,fun k C=>O.no k C,ha,fun k C Y=>(by have:=B k C;rw [Y] at this;cases this),by rw [aE];exact G⟩
   . exact ad hB
 . rcases hJ with O | ⟨k,g,ρ',C,Y,a9,ba,ha,-,G⟩
   . obtain ⟨ρ',ha,G⟩:=ap f w O fun i U=>B i oM;have ht:tail=[]:=ef (Nat.eq_zero_of_not_pos fun H=>by
      have:=B A.length oM;rw [O.no _ (cX _)] at this;cases this)
     subst ht;exact ⟨ρ',ha,G⟩
   . have bb:ops.length<=k:=ft fun H=>by
      have:=(Y k C).1 (B k H);omega
     rw [fp bb] at G;have bc:f=g:=funext fun i=>by
      cases ar:f i with
      | some v=>exact (a9 i v ar).symm
      | none =>
       refine (ba i (ft fun H => ?_)).symm;rcases dR i A.length with V | V
       . have:=B i oM;rw [ar] at this;cases this
       . have:=(Y i V).2 H;rw [ar] at this;cases this
     rw [bc];exact ⟨ρ',ha,G⟩
theorem zHY {w:World} {K K':Env->Prop} (h:∀ ρ,K ρ->K' ρ):∀ (Φs:Facts) (os:List Oper) (ρ:Env),zDw Φs os ρ w K->zDw Φs os ρ w K'
 | [],_,_,e=>by unfold zDw at *;exact h _ e
 | _ :: _,[],_,e=>by unfold zDw at *;exact h _ e
 | (_,_) :: Φs,o :: os,_,e=>fun v hv=>zHY h Φs os _ (e v hv)
theorem zY {K:Env->Prop} (h:K ρ):zDw [] [] ρ w K:=h
def Posts (w:World):List StoreSpec->Prop
 | []=>True
 | s :: ss=>s.post w/\Posts w ss
theorem zRI {w:World}:∀ {l:List StoreSpec},(∀ s∈l,s.post w)->Posts w l
 | [],_=>trivial
 | s :: l,h=>⟨h s sM,zRI fun e A=>h e (by simp [A])⟩
variable {Q:Post}
theorem zGd (fl:List Nat) (df:Defs) (C:Option Nat) (n0:Nat) (F:List (List Nat)) (H:P.follows .mixedOrders=true)
 (e:(zJQ ops ρ N&&zJR ops n0 C&&(fl++df.map (·.1)).all (· < n0)&&zGU ops n0==F)=true) (A:zEr ops df)
 (h:∀ K:Facts->Prop,(∀ Φs,(∀ w',Ext w0 w'->zDw Φs.reverse (ops.take n0) ρ w' (fun ρ'=>SepE ops fl df ρ'->zAX P r ops (ops.drop n0) ρ' w' (fun ρ'' w''=>Q .normal ρ'' δ w'')))->K Φs)->dRun P r [] false fl df ρ w0 0 (ops.take n0) F [] K):WPE P r N (.region id ops.toArray true) Q δ ρ w0:=by
 simp only [ee,ge,eZ,eA] at e;obtain ⟨⟨⟨I,G⟩,M⟩,rfl⟩:=e;have hn:(ops.take n0).length=n0:=by
  simp only [zJR,ee,eA] at G;rw [eW];omega
 refine zTX [] false fl df C (ops.take n0) (ops.drop n0) (List.take_append_drop n0 ops).symm H I (by rw [hn];exact G) ⟨List.nodup_nil,fun s O=>by cases O⟩ A (fun i hi => ?_) fun K hK => ?_
 . rw [hn];exact M i (gD.2 hi)
 . rw [hn];exact h K fun Φs B=>hK Φs fun w' hE _=>B w' hE.toExt
theorem zAR (B:Option Nat) (n0:Nat) (A:List (List Nat)) (C:P.follows .mixedOrders=true) (e:(zJQ ops ρ N&&zJR ops n0 B&&zGU ops n0==A)=true)
 (h:∀ K:Facts->Prop,(∀ Φs,(∀ w',Ext w0 w'->zDw Φs.reverse (ops.take n0) ρ w' (fun ρ'=>zAX P r ops (ops.drop n0) ρ' w' (fun ρ'' w''=>Q .normal ρ'' δ w'')))->K Φs)->dRun P r [] false [] [] ρ w0 0 (ops.take n0) A [] K):WPE P r N (.region id ops.toArray true) Q δ ρ w0 :=
 zGd [] [] B n0 A C (by simp only [ee] at e ⊢;exact ⟨⟨e.1,rfl⟩,e.2⟩) .nil fun K F=>h K fun Φs hΦ=>F Φs fun w' hE=>by
  refine zHY ?_ _ _ _ (hΦ w' hE);exact fun _ h _=>h
theorem zAy (b:Bool) (ss:List StoreSpec) (H:List (List Nat)) (I:P.follows .mixedOrders=true)
 (B:(zJQ ops ρ N&&(!b || ss.all fun s=>(List.range s.idx).all (waits ops s.idx))&&ss.all (fun s=>decide (s.idx<ops.length))&&zGU ops ops.length==H)=true) (F:(ss.map (·.blk)).Nodup)
 (G:∀ s∈ss,s.blk<w0.heap.size/\s.pre w0/\∀ w w',ExtS (ss.map (·.blk)) w0 w->ExtS (ss.map (·.blk)) w w'->w'.heap[s.blk]? = w.heap[s.blk]?->(s.pre w->s.pre w')/\(s.post w->s.post w'))
 (h:∀ K:Facts->Prop,(∀ Φs,(∀ w',ExtS (ss.map (·.blk)) w0 w'->Posts w' ss->zDw Φs.reverse ops ρ w' (fun ρ'=>Q .normal ρ' δ w'))->K Φs)->dRun P r ss b [] [] ρ w0 0 ops H [] K):WPE P r N (.region id ops.toArray true) Q δ ρ w0:=by
 simp only [ee,iw,ge,eZ,eA,List.mem_range,Bool.not_eq_true'] at B;obtain ⟨⟨⟨M,e⟩,O⟩,rfl⟩:=B;refine zTX ss b [] [] none ops [] sM I M (by simp [zJR];intro j hj;left;omega) ⟨F,fun s A=>⟨fun U i C => ?_,G s A⟩⟩ .nil (fun i C=>by simp [zDd] at C) fun K hK=>h K fun Φs hΦ=>hK Φs fun w' hE hp => ?_
 rotate_left
 . refine zHY ?_ _ _ _ (hΦ w' hE (zRI fun s A=>hp s A (O s A)));exact fun _ h _=>h
 rcases e with e | e
 . rw [U] at e;cases e
 . exact e s A i C
theorem zAe (A:List (List Nat)) (B:P.follows .mixedOrders=true) (e:(zJQ ops ρ N&&zGU ops ops.length==A)=true)
 (h:∀ K:Facts->Prop,(∀ Φs,(∀ w',Ext w0 w'->zDw Φs.reverse ops ρ w' (fun ρ'=>Q .normal ρ' δ w'))->K Φs)->dRun P r [] false [] [] ρ w0 0 ops A [] K):WPE P r N (.region id ops.toArray true) Q δ ρ w0 :=
 zAy false [] A B (by simp only [ee] at e ⊢;exact ⟨⟨⟨e.1,rfl⟩,rfl⟩,e.2⟩) List.nodup_nil (fun s C=>by cases C) fun K hK=>h K fun Φs hΦ=>hK Φs fun w' hE _=>hΦ w' hE.toExt
section ops
variable {Φs:Facts} {K:Facts->Prop} {o:Oper} {l:List Nat} {es:List (List Nat)}
theorem dcp (Φ:Fact) (e:∀ v w w',ExtS [] w0 w->ExtS [] w w'->Φ v w->Φ v w') (A:∀ (σ:Nat->Value) (w:World),Ext w0 w->KnowP Φs ρ w σ l->Runs P r o (lookσ σ) w (fun v w'=>Ext w w'/\Φ v w'))
 (h:dRun P r [] false fl df ρ w0 (i+1) os es ((o.dst.getD 0,Φ) :: Φs) K) (C:¬ zDd fl df i:=by decide):dRun P r [] false fl df ρ w0 i (o :: os) (l :: es) Φs K :=
 ⟨Φ,e,fun σ w F _ G=>(A σ w F.toExt G).mono fun v w' B=>⟨⟨B.1.toS _,fun s e=>by cases e⟩,B.2,.none C⟩,h⟩
theorem dvp (e:∀ (σ:Nat->Value) (w:World),Ext w0 w->KnowP Φs ρ w σ l->Runs P r o (lookσ σ) w (fun v w'=>Ext w w'/\v=u))
 (h:dRun P r [] false fl df ρ w0 (i+1) os es ((o.dst.getD 0,fun v _=>v=u) :: Φs) K) (A:¬ zDd fl df i:=by decide):dRun P r [] false fl df ρ w0 i (o :: os) (l :: es) Φs K :=
 dcp _ (fun _ _ _ _ _ h=>h) e h A
theorem dxn (Φ:Fact) (e:∀ v w w',ExtS [] w0 w->ExtS [] w w'->Φ v w->Φ v w') (A:∀ (σ:Nat->Value) (w:World),Ext w0 w->KnowP Φs ρ w σ l->Runs P r o (lookσ σ) w (fun v w'=>Ext w w'/\Φ v w'/\Xtra fl df i σ w w' v))
 (h:dRun P r [] false fl df ρ w0 (i+1) os es ((o.dst.getD 0,Φ) :: Φs) K):dRun P r [] false fl df ρ w0 i (o :: os) (l :: es) Φs K :=
 ⟨Φ,e,fun σ w C _ F=>(A σ w C.toExt F).mono fun v w' B=>⟨⟨B.1.toS _,fun s e=>by cases e⟩,B.2⟩,h⟩
theorem dbn (Φ:Fact) (F:(ss.filter (·.idx==i)).isEmpty=true) (A:∀ v w w',ExtS (ss.map (·.blk)) w0 w->ExtS (ss.map (·.blk)) w w'->Φ v w->Φ v w')
 (B:∀ (σ:Nat->Value) (w:World),ExtS (ss.map (·.blk)) w0 w->(∀ s∈ss,b=true/\i<s.idx\/i=s.idx->s.pre w)->KnowP Φs ρ w σ l->Runs P r o (lookσ σ) w (fun v w'=>Ext w w'/\Φ v w'))
 (h:dRun P r ss b [] [] ρ w0 (i+1) os es ((o.dst.getD 0,Φ) :: Φs) K):dRun P r ss b [] [] ρ w0 i (o :: os) (l :: es) Φs K :=
 ⟨Φ,A,fun σ w G H I=>(B σ w G H I).mono fun v w' C=>⟨⟨C.1.toS _,fun s A e=>by
  have:s∈ss.filter (·.idx==i):=List.mem_filter.2 ⟨A,by simpa using e⟩
  rw [List.isEmpty_iff.1 F] at this;cases this⟩,C.2,.none (by simp [zDd])⟩,h⟩
theorem dbv (A:(ss.filter (·.idx==i)).isEmpty=true)
 (e:∀ (σ:Nat->Value) (w:World),ExtS (ss.map (·.blk)) w0 w->(∀ s∈ss,b=true/\i<s.idx\/i=s.idx->s.pre w)->KnowP Φs ρ w σ l->Runs P r o (lookσ σ) w (fun v w'=>Ext w w'/\v=u))
 (h:dRun P r ss b [] [] ρ w0 (i+1) os es ((o.dst.getD 0,fun v _=>v=u) :: Φs) K):dRun P r ss b [] [] ρ w0 i (o :: os) (l :: es) Φs K :=
 dbn _ A (fun _ _ _ _ _ h=>h) e h
theorem des (s:StoreSpec) (Φ:Fact) (A:ss.filter (·.idx==i)=[s]) (H:∀ v w w',ExtS (ss.map (·.blk)) w0 w->ExtS (ss.map (·.blk)) w w'->Φ v w->Φ v w')
 (C:∀ (σ:Nat->Value) (w:World),ExtS (ss.map (·.blk)) w0 w->s.pre w->KnowP Φs ρ w σ l->Runs P r o (lookσ σ) w (fun v w'=>ExtS [s.blk] w w'/\s.post w'/\Φ v w'))
 (h:dRun P r ss b [] [] ρ w0 (i+1) os es ((o.dst.getD 0,Φ) :: Φs) K):dRun P r ss b [] [] ρ w0 i (o :: os) (l :: es) Φs K:=by
 have G:s∈ss/\s.idx=i:=by
  have:s∈ss.filter (·.idx==i):=by rw [A];simp
  simpa using List.mem_filter.1 this
 refine ⟨Φ,H,fun σ w I M O=>(C σ w I (M s G.1 (.inr G.2.symm)) O).mono fun v w' B=>⟨⟨by rw [A];exact B.1,fun U F e => ?_⟩,B.2.2,.none (by simp [zDd])⟩,h⟩;have:U∈ss.filter (·.idx==i):=List.mem_filter.2 ⟨F,by simpa using e⟩
 rw [A,dI] at this;rw [this];exact B.2.1
theorem dss (s:StoreSpec) (B:ss.filter (·.idx==i)=[s]) (e:∀ (σ:Nat->Value) (w:World),ExtS (ss.map (·.blk)) w0 w->s.pre w->KnowP Φs ρ w σ l->Runs P r o (lookσ σ) w (fun _ w'=>Upd s.blk w w'/\s.post w'))
 (h:dRun P r ss b [] [] ρ w0 (i+1) os es ((o.dst.getD 0,fun _ _=>True) :: Φs) K):dRun P r ss b [] [] ρ w0 i (o :: os) (l :: es) Φs K :=
 des s _ B (fun _ _ _ _ _ _=>trivial) (fun σ w hE hp hk=>(e σ w hE hp hk).mono fun _ _ A=>⟨A.1.toS (.head _),A.2,trivial⟩) h
theorem zAJ (h:K Φs):dRun P r ss b fl df ρ w0 i [] es Φs K:=h
end ops
def qRun (P:Program) (r:Option Nat) (w0:World):List Oper->Env->(Env->Prop)->Prop
 | [],ρ,K=>K ρ
 | o :: os,ρ,K=>∃ v,(∀ w,Ext w0 w->Runs P r o (look ρ) w (fun v' w'=>v'=v/\Ext w w'))/\qRun P r w0 os (ext ρ o.dst v) K
theorem qr {o:Oper} {K:Env->Prop} (A:∀ e,Ext w0 e->Runs P r o (look ρ) e (fun B w'=>B=v/\Ext e w')) (h:qRun P r w0 os (ext ρ o.dst v) K):qRun P r w0 (o :: os) ρ K:=⟨v,A,h⟩
theorem zKW {w:World} {o:Oper} {d:Nat} {Φ:Fact} {K:Env->Prop}:∀ (Φs:Facts) (os:List Oper) (ρ:Env),Φs.length=os.length->zDw Φs os ρ w (fun ρ'=>∀ v,Φ v w->K (ext ρ' o.dst v))->zDw (Φs++[(d,Φ)]) (os++[o]) ρ w K
 | [],[],_,_,h=>h
 | [],_ :: _,_,e,_=>by cases e
 | _ :: _,[],_,e,_=>by cases e
 | (_,_) :: Φs,_ :: os,_,e,h=>fun v hv=>zKW Φs os _ (by simpa using e) (h v hv)
theorem zUA (ok:DrawOk ops ρ N) {n0:Nat} (hn:n0<=ops.length) {X:Env->World->Prop}:∀ (os:List Oper) (i:Nat) (ρ':Env) (g:Vals) (Φs:Facts),(ops.take n0).drop i=os->i<=n0->Agree ops ρ ρ' g->(∀ j,i<=j->g j=none)->Φs.length=i ->
 (∀ j,j<i->∃ d v,g j=some v/\(∀ o t,ops[j]? = some o->o.dst=some t->d=t)/\Φs[i-1-j]? = some (d,fun u _=>u=v))->(∀ w' (Y:Env->Prop),Y ρ'->zDw Φs.reverse (ops.take i) ρ w' Y)->qRun P r w0 os ρ' (fun ρ''=>∀ w',Ext w0 w'->X ρ'' w') ->
 dRun P r [] false [] [] ρ w0 i os ((zGU ops n0).drop i) Φs (fun Ψ=>∀ w',Ext w0 w'->zDw Ψ.reverse (ops.take n0) ρ w' (X · w'))
 | [],i,ρ',g,Φs,C,hi,ha,F,hl,hv,hF,h=>by
  have:i=n0:=by
   have:=cW List.length C;simp at this;omega
  subst this;exact fun w' hE=>hF w' _ (h w' hE)
 | o :: os,i,ρ',g,Φs,C,hi,ha,F,hl,hv,hF,⟨v,hr,h⟩=>by
  have G:i<n0:=by
   have:=cW List.length C;simp at this;omega
  have M:ops[i]? = some o:=by
   have:=cW (fun l=>l[0]?) C;simpa [fk,G] using this
  have ak:(zGU ops n0).drop i=sight ops i (seesL ops o) :: (zGU ops n0).drop (i+1):=by
   have A:=zLy G M;have B:=(dY.1 A);rw [dZ B.1,B.2]
  obtain ⟨-,O,U,-,I,V⟩:=ok.op i o M;have htk:ops.take (i+1)=ops.take i++[o]:=by rw [List.take_add_one,M];rfl
  rw [ak];refine dcp (fun u _=>u=v) (fun _ _ _ _ _ h=>h) (fun σ w hE hk => ?_) (zUA ok hn os (i+1) (ext ρ' o.dst v) (upd g i v) _ (by rw [<- List.tail_drop,C];rfl) G (ha.ext ok M v) (fun j hj=>by rw [upd,ct oM];exact F j oM) (by simp [hl]) (fun j hj => ?_) (fun w' Y hY => ?_) h) (by simp [zDd])
  . refine (Runs.congr (σ':=lookσ σ) O U (fun x hx => ?_) (hr w hE)).mono fun _ _ h=>⟨h.2,h.1⟩;cases x with
    | tmp t =>
     have Z:t∈seesL ops o:=gK _ (zGp (by simpa using hx));have A:=zMz.1 hk t Z;have B:=V t Z;show look1 ρ' t=σ t;rw [(ha t).1];unfold slot;unfold Seen at A;cases hwt:zBX ops t with
     | none=>rw [hwt] at A;exact A.symm
     | some j =>
      rw [hwt] at A B;simp only at A B;by_cases hw:waits ops i j=true
      . rw [cD hw] at A;obtain ⟨oj,H,al⟩:=zEp hwt;obtain ⟨d,u,hg,hd,am⟩:=hv j (I j hw);rw [am] at A;have A:σ d=u:=A;rw [hd oj t H al] at A;simp [hg,A]
      . rw [ct hw] at A;have an:g j=none:=F j (by
         rcases B with B | ⟨B | B,-⟩
         . exact absurd B hw
         . obtain ⟨oj,H,-⟩:=zEp hwt;exact eU ((ok.op j oj H).2.2.2.2.1 i B)
         . omega)
        simp [an,A]
    | _=>rfl
  . by_cases e:j=i
    . subst e;exact ⟨o.dst.getD 0,v,by simp [upd],fun o' t ao Z=>by cases M.symm.trans ao;rw [Z];rfl,sM⟩
    . obtain ⟨d,u,A,B,h3⟩:=hv j oM;exact ⟨d,u,by rw [upd,ct e];exact A,B,by rw [show i+1-1-j=(i-1-j)+1 from by omega,List.getElem?_cons_succ];exact h3⟩
  . rw [htk,List.reverse_cons];exact zKW _ _ _ (by simp [hl];omega) (hF w' _ (by rintro _ rfl;exact hY))
theorem zBx (n0:Nat) (C:P.follows .mixedOrders=true) (e:(zJQ ops ρ N&&zJR ops n0 none)=true)
 (h:∀ K:Env->Prop,(∀ ρ',(∀ w',Ext w0 w'->zAX P r ops (ops.drop n0) ρ' w' (fun A B=>Q .normal A δ B))->K ρ')->qRun P r w0 (ops.take n0) ρ K):WPE P r N (.region id ops.toArray true) Q δ ρ w0:=by
 refine zAR none n0 (zGU ops n0) C (by rw [e];simp) fun K F => ?_;simp only [ee] at e;have hn:n0<=ops.length:=by have:=e.2;simp only [zJR,ee,eA] at this;exact this.1.1.1
 have G:=zUA (zOk e.1) hn (P:=P) (r:=r) (w0:=w0) _ 0 ρ (fun _=>none) [] rfl (di _) (fun t=>by
  have:(zBX ops t).bind (fun _=>none)=(none:Option Value):=by cases zBX ops t<;>rfl
  simp only [slot,this];exact ⟨rfl,.inl⟩) (fun _ _=>rfl) rfl (fun j hj=>by omega) (fun w' Y hY=>by simpa [zDw] using hY) (h _ fun _ h=>h)
 exact zOC F _ _ _ _ G
end
section gives
theorem zq {b:Nat} (h:fn.results = #[.cell t T]) (A:(dom ρ).contains t=true) (B:look1 ρ t = .pointer (some ⟨b,0,none⟩)) (C:Aggr P T n) (F:Blk w b T' cs) (H:cs.length=n):Gives P fn N ρ w (.agg cs.toArray):=fun a G=>by
 have e:=G.at_ t (by simpa using A);rw [B] at e;have h2:=zCx (o:=0) C F oM;have h3:((cs.drop 0).take n).toArray=cs.toArray:=by rw [eT,dF oM]
 rw [h3] at h2;rw [gS] at e;simp only [results,h];simp [e,asAddr,h2]
theorem za {u b:Nat} (h:fn.results = #[.cell t T,.tmp u]) (B:(dom ρ).contains t=true) (C:(dom ρ).contains u=true) (F:look1 ρ t = .pointer (some ⟨b,0,none⟩)) (G:Aggr P T n) (H:Blk w b T' cs) (I:cs.length=n):Gives P fn N ρ w (.tuple #[.agg cs.toArray,look1 ρ u]):=fun a A=>by
 have e:=A.at_ t (by simpa using B);have h4:=A.at_ u (by simpa using C);rw [F] at e;have h2:=zCx (o:=0) G H oM;have h3:((cs.drop 0).take n).toArray=cs.toArray:=by rw [eT,dF oM]
 rw [h3] at h2;rw [gS] at e;simp only [results,h];rw [<- h4];simp [e,asAddr,h2]
end gives
variable {cap2 m o:Nat} {K:Value->World->Prop}
def Cells (w:World) (p:Option Addr) (T:TypeId) (cs:List Value):Prop:=cs=[]\/∃ b o e,p=some ⟨b,o,none⟩/\Blk w b T e/\(e.drop o).take cs.length=cs
theorem Cells.ext {p:Option Addr} (h:Cells w p T cs) (A:Ext w w'):Cells w' p T cs:=by
 rcases h with h | ⟨b,o,e,B,C,F⟩
 . exact .inl h
 . exact .inr ⟨b,o,e,B,C.ext A,F⟩
theorem zDu {p:Option Addr} (h:Cells w p T cs) (A:cs.length=m*n):(Builtin.firstCells n m (.slice p len cap)).run P w = .ok cs.toArray w:=by
 rcases h with h | ⟨b,o,H,rfl,C,F⟩
 . subst h;have G:m*n=0:=by simpa using A.symm
   cases p with
   | none=>simp [Builtin.firstCells]
   | some a=>simp [Builtin.firstCells,G,loadCells,loadCellsFrom]
 . have B:=run_loadCells_list (P:=P) w ⟨b,o,none⟩ cs (fun j v e=>by
    rw [zAm,C.cell];rw [<- F,fk] at e;split at e
    . rw [fN] at e;exact e
    . cases e)
   rw [A] at B;simp [Builtin.firstCells,B]
section laws
variable {d:Option Tmp}
theorem zAW {T X:Nat} {z:Value} {x y:Operand} {p q:Option Addr} {old new:List Value}
 (hT:P.underlying T=some (.slice E)) (I:P.underlying X=some (.slice E)) (H:(P.info? E).map (fun i=>(i.zero,i.size,i.bytes))=some (some z,n,bytes)) (hz:z.cells.size=n) (an:0<bytes)
 (hx:σ x = .slice p len cap) (hy:σ y = .slice q m cap2) (ho:Cells w p E old) (M:old.length=len*n) (hn:Cells w q E new) (O:new.length=m*n)
 (hc:cap<len+m) (Z:Builtin.nextslicecap (len+m) cap*bytes<=281474976710656)
 (hk:∀ w' A h,len+m<=h->Ext w w'->Blk w' w.heap.size E (old++new++A)->A=(Builtin.zeroCells z.cells (h-(len+m))).toList->w'.heap.size=w.heap.size+1->K (.slice (some ⟨w.heap.size,0,none⟩) (len+m) h) w') :
 Runs P r ⟨d,.call { callee := .builtin .append,args := #[x,y],argTypes := #[T,X] },ty,pos,af,g⟩ σ w K:=by
 cases B:P.info? E with
 | none=>simp [B] at H
 | some Y =>
  simp [B] at H;obtain ⟨e1,e2,e3⟩:=H;have hb':¬ (281474976710656<Builtin.nextslicecap (len+m) cap*Y.bytes):=by rw [e3];omega
  have h0:¬ (Y.bytes=0):=oM
  have F:∃ c,(Question.appendCap (len+m) cap E).cut (w.tape w.drawn (.appendCap (len+m) cap E))=c/\len+m<=c:=⟨_,rfl,by simp only [Question.cut];omega⟩;obtain ⟨c,U,V⟩:=F
  refine zBp (fun _ e=>by cases e) (v := .slice (some ⟨w.heap.size,0,none⟩) (len+m) c)
   (w':=w.drew.alloc (.cells (old.toArray++(new.toArray++Builtin.zeroCells z.cells (c-(len+m)))) E)) ?_ ?_
  . have f1:=zDu (P:=P) (w:=w.drew) (len:=len) (cap:=cap) (n:=n) (m:=len) (p:=p) (T:=E) (cs:=old) (ho.ext (Ext.drawn _)) M;have f2:=zDu (P:=P) (w:=w.drew) (len:=m) (cap:=cap2) (n:=n) (m:=m) (p:=q) (T:=E) (cs:=new) (hn.ext (Ext.drawn _)) O;simp [execOp,resolve,hx,hy,invoke,builtin,Builtin.append_,run_underlying hT,run_underlying I,sizeOf,typeInfo,B,e2,Builtin.lenOf,show ¬ (len+m<=cap) from by omega,hb',h0,Question.forced,U,f1,f2,zeroValue,e1,newRow]
  . refine hk _ (Builtin.zeroCells z.cells (c-(len+m))).toList _ V ?_ ?_ ?_ ?_
    . exact (Ext.drawn (w:=w) _).trans (Ext.push (w:=w.drew) _)
    . show (w.drew.heap.push _)[w.heap.size]? = _;rw [show w.heap.size=w.drew.heap.size from rfl,Array.getElem?_push_size];simp
    . rfl
    . show (w.drew.heap.push _).size=_;rw [Array.size_push];rfl
theorem zAz {T V:Nat} {z:Value} {x y:Operand} {q:Option Addr} {h new:List Value}
 (Z:P.underlying T=some (.slice E)) (O:P.underlying V=some (.slice E)) (M:(P.info? E).map (fun i=>(i.zero,i.size,i.bytes))=some (some z,n,bytes))
 (hx:σ x = .slice (some ⟨b,o,none⟩) len cap) (hy:σ y = .slice q m cap2) (H:Blk w b E h) (hn:Cells w q E new) (C:new.length=m*n)
 (hc:len+m<=cap) (G:o+(len+m)*n<=h.length) (U:new.all zDT=true)
 (X:∀ w',Upd b w w'->Blk w' b E (zBr h (o+len*n) new)->K (.slice (some ⟨b,o,none⟩) (len+m) cap) w') :
 Runs P r ⟨d,.call { callee := .builtin .append,args := #[x,y],argTypes := #[T,V] },ty,pos,af,g⟩ σ w K:=by
 cases A:P.info? E with
 | none=>simp [A] at M
 | some ie =>
  simp [A] at M;obtain ⟨e1,e2,e3⟩:=M;have f2:=zDu (P:=P) (w:=w) (len:=m) (cap:=cap2) (n:=n) (m:=m) (p:=q) (T:=E) (cs:=new) hn C;have f3:=zDV (P:=P) (b:=b) (o:=o+len*n) new 0 w h H (by rw [C];rw [eF] at G;omega) U;refine zBp (fun _ e=>by cases e) (v := .slice (some ⟨b,o,none⟩) (len+m) cap) (w':=if new=[] then w else World.setBlk w b E (zBr h (o+len*n) new)) ?_ ?_
  . simp [execOp,resolve,hx,hy,invoke,builtin,Builtin.append_,run_underlying Z,run_underlying O,sizeOf,typeInfo,A,e2,Builtin.lenOf,hc,f2,zAm];have F:=f3;simp only [fw] at F;rw [F];simp
  . by_cases Y:new=[]
    . subst Y;rw [cD rfl];exact X w (Upd.refl b w) (by simpa [zBr] using H)
    . rw [ct Y];exact X _ (zMO H _) (zGy _ _ H.lt)
theorem zEl {T G:Nat} {z:Value} {x y:Operand} {p q:Option Addr}
 (H:P.underlying T=some (.slice E)) (B:P.underlying G=some (.slice E)) (F:(P.info? E).map (fun i=>(i.zero,i.size,i.bytes))=some (some z,n,bytes))
 (I:σ x = .slice p len cap) (M:σ y = .slice q 0 cap2) (O:len<=cap) (V:K (.slice p len cap) w) :
 Runs P r ⟨d,.call { callee := .builtin .append,args := #[x,y],argTypes := #[T,G] },ty,pos,af,g⟩ σ w K:=by
 cases h:P.info? E with
 | none=>simp [h] at F
 | some X =>
  simp [h] at F;obtain ⟨Y,U,Z⟩:=F;have f2:=zDu (P:=P) (w:=w) (len:=0) (cap:=cap2) (n:=n) (m:=0) (p:=q) (T:=E) (cs:=[]) (.inl rfl) sM;refine zy (fun _ e=>by cases e) ?_ V;cases p with
  | none=>simp [execOp,resolve,I,M,invoke,builtin,Builtin.append_,run_underlying H,run_underlying B,sizeOf,typeInfo,h,U,Builtin.lenOf,O,f2]
  | some a=>simp [execOp,resolve,I,M,invoke,builtin,Builtin.append_,run_underlying H,run_underlying B,sizeOf,typeInfo,h,U,Builtin.lenOf,O,f2,storeCells]
end laws
theorem zeroCells_one (v:Value) (h:v.cells = #[v]) (m:Nat):(Builtin.zeroCells v.cells m).toList=List.replicate m v:=by
 rw [h];simp only [Builtin.zeroCells,Array.toList_map,Array.toList_range,List.size_toArray,et,List.length_nil,Nat.mod_one];apply gw;intro i;simp only [fC,gN];by_cases hi:i<m
 . simp [hi,Nat.mod_one]
 . simp [hi]
theorem growBy_le (n c:Nat):Builtin.growBy n 4 c<=3*c+2048:=by
 unfold Builtin.growBy Builtin.growBy Builtin.growBy Builtin.growBy Builtin.growBy;split
 . omega
 . split
   . omega
   . split
     . omega
     . split
       . omega
       . omega
theorem zAc (n c:Nat):Builtin.nextslicecap n c<=n+3*c+2048:=by
 have:=growBy_le n c;unfold Builtin.nextslicecap;split
 . omega
 . split
   . omega
   . omega
end Go.Proofs.YtjiendlfobjanaaGreatDoor
namespace Go.Proofs.YtjiendlfobjanaaGreatDoor
open Go Go.RowKit Go.Proofs Tryz
variable {N i n:Nat} {P:Program} {T ty:TypeId} {af:Array Edge} {cs:List Value} {df:Defs} {ds fl:List Nat} {f:FuncId} {ops os:List Oper} {pos:String} {r:Option Nat} {ts:Array TypeId} {u v:Value} {w w' w0:World} {δ:List Deferred} {ρ:Env}
def nat64:List Nat->Nat
 | []=>0
 | d :: ds=>d+18446744073709551616*nat64 ds
def Dig (ds:List Nat):Prop:=∀ d∈ds,d<18446744073709551616
def Norm (ds:List Nat):Prop:=Dig ds/\ds.getLast?≠some 0
def dv (ds:List Nat):List Value:=ds.map fun (d:Nat) => .int .u64 (d:Int)
def Rd (w:World) (p:Option Addr) (ds:List Nat):Prop :=
 ∀ i,i<ds.length->∃ b o cs,p=some ⟨b,o,none⟩/\Blk w b 164 cs/\cs[o+i]? = some (.int .u64 (ds.getD i 0:Nat))
def IsW (w:World) (v:Value) (n:Nat):Prop:=∃ p ds cap,v = .slice p ds.length cap/\ds.length<=cap/\Rd w p ds/\Norm ds/\nat64 ds=n
theorem Rd.ext {p:Option Addr} (h:Rd w p ds) (e:Ext w w'):Rd w' p ds:=fun i A=>by
 obtain ⟨b,o,cs,B,C,F⟩:=h i A;exact ⟨b,o,cs,B,C.ext e,F⟩
theorem Rd.upd {p:Option Addr} {b:Nat} (h:Rd w p ds) (B:Upd b w w') (C:Blk w b T cs) (F:T≠164):Rd w' p ds:=fun i G=>by
 obtain ⟨c,o,cs',H,A,I⟩:=h i G;exact ⟨c,o,cs',H,A.upd B (fun e=>by subst e;exact F (C.inj A).1),I⟩
theorem Rd.upd' {p:Option Addr} {b:Nat} (h:Rd w p ds) (A:Upd b w w') (B:∀ a,p=some a->0<ds.length->a.block≠b):Rd w' p ds:=fun i hi=>by
 obtain ⟨c,o,cs',e,C,F⟩:=h i hi;exact ⟨c,o,cs',e,C.upd A (B _ e oM),F⟩
theorem Rd.ne {p:Option Addr} {b:Nat} (h:Rd w p ds) (B:w.heap.size<=b):∀ a,p=some a->0<ds.length->a.block≠b:=fun a ha hd=>by
 obtain ⟨c,o,cs',e,A,C⟩:=h 0 hd;rw [ha] at e;cases e;have:=A.lt;simp only;omega
theorem Rd.lt {p:Option Addr} (h:Rd w p ds) (e:0<ds.length):∃ a,p=some a/\a.block<w.heap.size:=by
 obtain ⟨c,o,cs',A,B,C⟩:=h 0 e;exact ⟨_,A,B.lt⟩
theorem IsW.ext (h:IsW w v n) (e:Ext w w'):IsW w' v n:=by
 obtain ⟨p,ds,cap,A,B,C,F,G⟩:=h;exact ⟨p,ds,cap,A,B,C.ext e,F,G⟩
theorem IsW.upd {b:Nat} (h:IsW w v n) (e:Upd b w w') (A:Blk w b T cs) (B:T≠164):IsW w' v n:=by
 obtain ⟨p,ds,cap,C,F,G,H,I⟩:=h;exact ⟨p,ds,cap,C,F,G.upd e A B,H,I⟩
def NoW (S:List Nat) (w:World):Prop:=∀ b∈S,∃ T cs,Blk w b T cs/\T≠164
theorem NoW.ext {S:List Nat} (h:NoW S w) (e:ExtS S w w'):NoW S w':=fun b A=>by
 obtain ⟨T,cs,B,C⟩:=h b A;obtain ⟨cs',F⟩:=e.kind b T cs B;exact ⟨T,cs',F,C⟩
theorem Rd.extS {S:List Nat} {p:Option Addr} (h:Rd w p ds) (A:ExtS S w w') (B:NoW S w):Rd w' p ds:=fun i C=>by
 obtain ⟨c,o,cs',F,e,G⟩:=h i C;refine ⟨c,o,cs',F,e.extS A (fun H => ?_),G⟩;obtain ⟨T,cs,I,M⟩:=B c H;exact M (I.inj e).1
theorem IsW.extS {S:List Nat} (h:IsW w v n) (e:ExtS S w w') (A:NoW S w):IsW w' v n:=by
 obtain ⟨p,ds,cap,B,C,F,G,H⟩:=h;exact ⟨p,ds,cap,B,C,F.extS e A,G,H⟩
def IsNum (w:World) (v:Value) (q:Rat):Prop :=
 ∃ n d,v = .agg #[.bool (decide (q<0)),n,d]/\IsW w n q.num.natAbs/\IsW w d (if q.den=1 then 0 else q.den)
theorem IsNum.ext {q:Rat} (h:IsNum w v q) (e:Ext w w'):IsNum w' v q:=by
 obtain ⟨n,d,A,B,C⟩:=h;exact ⟨n,d,A,B.ext e,C.ext e⟩
theorem IsNum.upd {q:Rat} {b:Nat} (h:IsNum w v q) (e:Upd b w w') (A:Blk w b T cs) (B:T≠164):IsNum w' v q:=by
 obtain ⟨n,d,C,F,G⟩:=h;exact ⟨n,d,C,F.upd e A B,G.upd e A B⟩
theorem IsNum.extS {S:List Nat} {q:Rat} (h:IsNum w v q) (e:ExtS S w w') (A:NoW S w):IsNum w' v q:=by
 obtain ⟨n,d,B,C,F⟩:=h;exact ⟨n,d,B,C.extS e A,F.extS e A⟩
theorem mixed:prog.follows .mixedOrders=true:=kR
theorem zCo:Plain prog 4:=pU
theorem zAT:Plain prog 3:=pU
theorem zAw:Plain prog 35:=pU
theorem zAg:Plain prog 164:=pU
theorem zDZ:(prog.info? 164).map (·.size)=some 1:=kR
theorem zJV:(prog.info? 37).map (·.size)=some 3:=kR
theorem zAt:(prog.info? 37).bind (·.zero)=some (.agg #[.bool false,.slice none 0 0,.slice none 0 0]):=kR
theorem zj:zBH prog 35 164 1:=pU
theorem zEn:prog.underlying 35=some (.slice 164):=kR
theorem zHZ:(prog.info? 164).map (fun i=>(i.zero,i.size,i.bytes))=some (some (.int .u64 0),1,8):=kR
theorem info164':(prog.info? 164).map (fun i=>(i.zero,i.size))=some (some (.int .u64 0),1):=kR
theorem zAI:Aggr prog 37 3:=pU
theorem zEK:zAG prog 37 0 0:=by unfold zAG;kernel_rfl
theorem zDF:zAG prog 37 1 1:=by unfold zAG;kernel_rfl
theorem zGN:zAG prog 37 2 2:=by unfold zAG;kernel_rfl
def hasB (P:Program) (f:FuncId):Bool:=match P.funcs[f]? with | some fn=>fn.body.isSome && !(fn.name == "runtime.NumGoroutine") | none=>false
theorem yB (h:hasB P f=true:=by kernel_rfl):zBA P f:=fun a w=>by
 unfold hasB at h;cases e:P.funcs[f]? with
 | none=>rw [e] at h;cases h
 | some fn =>
  rw [e] at h;simp only [ee,Bool.not_eq_true'] at h;obtain ⟨b,A⟩:=gq.1 h.1;exact enters_of e h.2 A a w
theorem aL {a b:Prop} (h:a/\b):a:=h.1
theorem eR:Ext w w/\v=v:=⟨Ext.refl w,rfl⟩
theorem eX {a:Prop} (h:a):Ext w w/\a:=⟨Ext.refl w,h⟩
theorem eQ:v=v/\Ext w w:=⟨rfl,Ext.refl w⟩
section
variable {ss:List StoreSpec} {b:Bool} {Φs:Facts} {K:Facts->Prop} {o:Oper} {l:List Nat} {es:List (List Nat)} {x:Operand} {d:Option Tmp} {args:Array Operand}
theorem dC (Φ:Fact) (e:∀ {σ:Nat->Value} {w:World},Ext w0 w->KnowP Φs ρ w σ l->Runs P r o (lookσ σ) w (fun v w'=>Ext w w'/\Φ v w'))
 (h:dRun P r [] false fl df ρ w0 (i+1) os es ((o.dst.getD 0,Φ) :: Φs) K) (A:∀ v w w',ExtS [] w0 w->ExtS [] w w'->Φ v w->Φ v w':=by first | exact fun _ _ _ _ hx h=>h.ext hx.toExt | exact fun _ _ _ _ _ h=>h)
 (B:¬ zDd fl df i:=by decide):dRun P r [] false fl df ρ w0 i (o :: os) (l :: es) Φs K:=dcp Φ A (fun _ _=>e) h B
theorem dc {Φ:Fact} (e:∀ {σ:Nat->Value} {w:World},Ext w0 w->KnowP Φs ρ w σ l->Runs P r o (lookσ σ) w (fun v w'=>Ext w w'/\Φ v w'))
 (h:dRun P r [] false fl df ρ w0 (i+1) os es ((o.dst.getD 0,Φ) :: Φs) K) (A:∀ v w w',ExtS [] w0 w->ExtS [] w w'->Φ v w->Φ v w':=by first | exact fun _ _ _ _ hx h=>h.ext hx.toExt | exact fun _ _ _ _ _ h=>h)
 (B:¬ zDd fl df i:=by decide):dRun P r [] false fl df ρ w0 i (o :: os) (l :: es) Φs K:=dcp Φ A (fun _ _=>e) h B
theorem du (e:∀ {σ:Nat->Value} {w:World},Ext w0 w->KnowP Φs ρ w σ l->Runs P r o (lookσ σ) w (fun v w'=>Ext w w'/\v=u))
 (h:dRun P r [] false fl df ρ w0 (i+1) os es ((o.dst.getD 0,fun v _=>v=u) :: Φs) K) (A:¬ zDd fl df i:=by decide):dRun P r [] false fl df ρ w0 i (o :: os) (l :: es) Φs K :=
 dvp (fun _ _=>e) h A
theorem dM (e:∀ {σ:Nat->Value} {w:World},KnowP Φs ρ w σ l->lookσ σ x=u)
 (h:dRun P r [] false fl df ρ w0 (i+1) os es ((d.getD 0,fun v _=>v=u) :: Φs) K) (A:¬ zDd fl df i:=by decide):dRun P r [] false fl df ρ w0 i (⟨d,.move x,ty,pos,af,none⟩ :: os) (l :: es) Φs K :=
 dvp (fun _ _ _ k=>zAH ⟨Ext.refl _,e k⟩) h A
theorem dA (e:∀ {σ:Nat->Value} {w:World},KnowP Φs ρ w σ l->lookσ σ x=u)
 (h:dRun P r [] false fl df ρ w0 (i+1) os es ((d.getD 0,fun v _=>v=u) :: Φs) K) (A:¬ zDd fl df i:=by decide):dRun P r [] false fl df ρ w0 i (⟨d,.assign x,ty,pos,af,none⟩ :: os) (l :: es) Φs K :=
 dvp (fun _ _ _ k=>zr ⟨Ext.refl _,e k⟩) h A
theorem dL (Φ:Fact) (C:∀ {σ:Nat->Value} {w:World},Ext w0 w->KnowP Φs ρ w σ l->Ret P f (args.toList.map (lookσ σ)).toArray w Φ)
 (h:dRun P r [] false fl df ρ w0 (i+1) os es ((d.getD 0,Φ) :: Φs) K) (F:∀ v w w',ExtS [] w0 w->ExtS [] w w'->Φ v w->Φ v w':=by first | exact fun _ _ _ _ hx h=>h.ext hx.toExt | exact fun _ _ _ _ _ h=>h)
 (G:¬ zDd fl df i:=by decide) (H:zBA P f:=by exact yB):dRun P r [] false fl df ρ w0 i (⟨d,.call { callee := .value (.func f),args:=args,argTypes:=ts },ty,pos,af,none⟩ :: os) (l :: es) Φs K :=
 dcp Φ F (fun _ _ I M=>zJ H (CallK.of_ret (C I M) fun _ _ e q=>⟨e,q⟩) rfl) h G
theorem dl {Φ:Fact} (B:∀ {σ:Nat->Value} {w:World},Ext w0 w->KnowP Φs ρ w σ l->Ret P f (args.toList.map (lookσ σ)).toArray w Φ)
 (h:dRun P r [] false fl df ρ w0 (i+1) os es ((d.getD 0,Φ) :: Φs) K) (C:∀ v w w',ExtS [] w0 w->ExtS [] w w'->Φ v w->Φ v w':=by first | exact fun _ _ _ _ hx h=>h.ext hx.toExt | exact fun _ _ _ _ _ h=>h)
 (F:¬ zDd fl df i:=by decide) (G:zBA P f:=by exact yB):dRun P r [] false fl df ρ w0 i (⟨d,.call { callee := .value (.func f),args:=args,argTypes:=ts },ty,pos,af,none⟩ :: os) (l :: es) Φs K :=
 dL Φ B h C F G
theorem bv (e:∀ {σ:Nat->Value} {w:World},ExtS (ss.map (·.blk)) w0 w->KnowP Φs ρ w σ l->Runs P r o (lookσ σ) w (fun v w'=>Ext w w'/\v=u))
 (h:dRun P r ss b [] [] ρ w0 (i+1) os es ((o.dst.getD 0,fun v _=>v=u) :: Φs) K) (A:(ss.filter (·.idx==i)).isEmpty=true:=by rfl):dRun P r ss b [] [] ρ w0 i (o :: os) (l :: es) Φs K :=
 dbv A (fun _ _ B _ C=>e B C) h
theorem bM (e:∀ {σ:Nat->Value} {w:World},KnowP Φs ρ w σ l->lookσ σ x=u)
 (h:dRun P r ss b [] [] ρ w0 (i+1) os es ((d.getD 0,fun v _=>v=u) :: Φs) K) (A:(ss.filter (·.idx==i)).isEmpty=true:=by rfl):dRun P r ss b [] [] ρ w0 i (⟨d,.move x,ty,pos,af,none⟩ :: os) (l :: es) Φs K :=
 dbv A (fun _ _ _ _ k=>zAH ⟨Ext.refl _,e k⟩) h
theorem bN (Φ:Fact) (B:NoW (ss.map (·.blk)) w0) (A:∀ {σ:Nat->Value} {w:World},ExtS (ss.map (·.blk)) w0 w->KnowP Φs ρ w σ l->Runs P r o (lookσ σ) w (fun v w'=>Ext w w'/\Φ v w'))
 (h:dRun P r ss b [] [] ρ w0 (i+1) os es ((o.dst.getD 0,Φ) :: Φs) K) (C:∀ v w w',NoW (ss.map (·.blk)) w->ExtS (ss.map (·.blk)) w w'->Φ v w->Φ v w':=by exact fun _ _ _ n e h=>h.extS e n)
 (F:(ss.filter (·.idx==i)).isEmpty=true:=by rfl):dRun P r ss b [] [] ρ w0 i (o :: os) (l :: es) Φs K :=
 dbn Φ F (fun v w w' G e h=>C v w w' (B.ext G) e h) (fun _ _ hE _ hk=>A hE hk) h
theorem bn {Φ:Fact} (A:NoW (ss.map (·.blk)) w0) (e:∀ {σ:Nat->Value} {w:World},ExtS (ss.map (·.blk)) w0 w->KnowP Φs ρ w σ l->Runs P r o (lookσ σ) w (fun v w'=>Ext w w'/\Φ v w'))
 (h:dRun P r ss b [] [] ρ w0 (i+1) os es ((o.dst.getD 0,Φ) :: Φs) K) (B:∀ v w w',NoW (ss.map (·.blk)) w->ExtS (ss.map (·.blk)) w w'->Φ v w->Φ v w':=by exact fun _ _ _ n hx h=>h.extS hx n)
 (C:(ss.filter (·.idx==i)).isEmpty=true:=by rfl):dRun P r ss b [] [] ρ w0 i (o :: os) (l :: es) Φs K:=bN Φ A e h B C
theorem bl {Φ:Fact} (F:NoW (ss.map (·.blk)) w0) (G:∀ {σ:Nat->Value} {w:World},ExtS (ss.map (·.blk)) w0 w->KnowP Φs ρ w σ l->Ret P f (args.toList.map (lookσ σ)).toArray w Φ)
 (h:dRun P r ss b [] [] ρ w0 (i+1) os es ((d.getD 0,Φ) :: Φs) K) (H:∀ v w w',NoW (ss.map (·.blk)) w->ExtS (ss.map (·.blk)) w w'->Φ v w->Φ v w':=by exact fun _ _ _ n hx h=>h.extS hx n)
 (I:(ss.filter (·.idx==i)).isEmpty=true:=by rfl) (C:zBA P f:=by exact yB):dRun P r ss b [] [] ρ w0 i (⟨d,.call { callee := .value (.func f),args:=args,argTypes:=ts },ty,pos,af,none⟩ :: os) (l :: es) Φs K :=
 bN Φ F (fun M O=>zJ C (CallK.of_ret (G M O) fun _ _ e q=>⟨e,q⟩) rfl) h H I
theorem qS {o:Oper} {K:Env->Prop} (A:∀ {e},Ext w0 e->Runs P r o (look ρ) e (fun B w'=>B=v/\Ext e w')) (h:qRun P r w0 os (ext ρ o.dst v) K):qRun P r w0 (o :: os) ρ K:=qr (fun _=>A) h
theorem qM {K:Env->Prop} (h:qRun P r w0 os (ext ρ d (look ρ x)) K):qRun P r w0 (⟨d,.move x,ty,pos,af,none⟩ :: os) ρ K:=qr (fun _ _=>zAH ⟨rfl,Ext.refl _⟩) h
end
end Go.Proofs.YtjiendlfobjanaaGreatDoor
namespace Go.Proofs.YtjiendlfobjanaaGreatDoor
variable {a b d i k o:Nat} {ds:List Nat} {w:World}
theorem zFW (d:Nat):nat64 [d]=d:=by
 show d+18446744073709551616*0=d;rw [fW,fw]
theorem zBi:∀ (a b:List Nat),nat64 (a++b)=nat64 a+18446744073709551616^a.length*nat64 b
 | [],b=>by simp [nat64]
 | x :: a,b=>by
  have:=zBi a b;simp only [List.cons_append,nat64,et,dB,this];rw [dV,<- iB];congr 1;rw [<- dt,dm 18446744073709551616]
theorem zCw:∀ (ds:List Nat),Dig ds->nat64 ds<18446744073709551616^ds.length
 | [],_=>by simp [nat64]
 | d :: ds,h=>by
  have e:=zCw ds fun x hx=>h x (by simp [hx]);have h2:=h d sM;simp only [nat64,et,dB];have:nat64 ds+1<=18446744073709551616^ds.length:=e;have:=dy 18446744073709551616 this;rw [dm (_^_)];omega
theorem Dig.take (h:Dig ds) (k:Nat):Dig (ds.take k):=fun d e=>h d (List.mem_of_mem_take e)
theorem Dig.drop (h:Dig ds) (k:Nat):Dig (ds.drop k):=fun d e=>h d (List.mem_of_mem_drop e)
theorem Dig.getD (h:Dig ds) (k:Nat):ds.getD k 0<18446744073709551616:=by
 by_cases e:k<ds.length
 . simp only [cC,cY e,Option.getD_some];exact h _ (fD e)
 . simp [ez (ft e)]
theorem zCv (h:k<ds.length):ds.take (k+1)=ds.take k++[ds.getD k 0]:=by
 rw [dG h];simp [h]
theorem zEi (h:k<ds.length):nat64 (ds.take (k+1))=nat64 (ds.take k)+18446744073709551616^k*ds.getD k 0:=by
 rw [zCv h,zBi];simp [nat64,dT (eU h)]
theorem zFt (ds:List Nat) (k:Nat):nat64 ds=nat64 (ds.take k)+18446744073709551616^(min k ds.length)*nat64 (ds.drop k):=by
 conv=>lhs;rw [<- List.take_append_drop k ds,zBi]
 simp
theorem Norm.lo (h:Norm ds) (A:ds≠[]):18446744073709551616^(ds.length-1)<=nat64 ds:=by
 obtain ⟨_,B⟩:=h;rw [<- List.dropLast_concat_getLast A,zBi];have hne:ds.getLast A≠0:=fun e=>B (by rw [List.getLast?_eq_some_getLast A,e]);have:1<=nat64 [ds.getLast A]:=by simp [nat64];omega
 have:=dy (18446744073709551616^ds.dropLast.length) this;simp at this ⊢;omega
theorem Norm.zero (h:Norm ds):nat64 ds=0↔ds=[]:=by
 constructor
 . intro e;by_cases h0:ds=[]
   . exact h0
   . have:=h.lo h0;have:0<18446744073709551616^(ds.length-1):=eq dE;omega
 . rintro rfl;rfl
theorem Norm.len_lt {a b:List Nat} (e:Dig a) (A:Norm b) (h:a.length<b.length):nat64 a<nat64 b:=by
 have B:=zCw a e;have h2:=A.lo (by rintro rfl;simp at h);have:18446744073709551616^a.length<=18446744073709551616^(b.length-1):=dw dE oM;omega
theorem zOh:∀ (a b:List Nat),Dig a->Dig b->a.length=b.length->nat64 a=nat64 b->a=b
 | [],[],_,_,_,_=>rfl
 | x :: a,y :: b,A,B,C,h=>by
  have G:=A x sM;have hy:=B y sM;simp only [nat64] at h;have h1:x=y:=oM
  have F:nat64 a=nat64 b:=oM
  rw [h1,zOh a b (fun d e=>A d (by simp [e])) (fun d e=>B d (by simp [e])) (by simpa using C) F]
theorem Norm.inj {a b:List Nat} (A:Norm a) (B:Norm b) (h:nat64 a=nat64 b):a=b:=by
 rcases iC a.length b.length with e | e | e
 . have:=Norm.len_lt A.1 B e;omega
 . exact zOh a b A.1 B.1 e h
 . have:=Norm.len_lt B.1 A e;omega
theorem Norm.len_le (h:Norm ds) {L:Nat} (C:(nat64 ds).log2<L):ds.length<=L/64+1:=by
 by_cases A:ds=[]
 . simp [A]
 . have B:=h.lo A;have hne:nat64 ds≠0:=fun e=>A (h.zero.1 e);have h2:=(gd hne).1 C;have h3:(18446744073709551616:Nat)=2^64:=by decide
   rw [h3,<- gL] at B;have F:2^(64*(ds.length-1))<2^L:=eN B h2;have h5:=(gr (by decide:1<2)).1 F;omega
theorem zAO (ds:List Nat):(dv ds).length=ds.length:=by simp [dv]
theorem zST (ds:List Nat) (i d:Nat):(dv ds).set i (.int .u64 (d:Int))=dv (ds.set i d):=by simp [dv,List.map_set]
theorem zDP (ds:List Nat) (i:Nat) (h:i<ds.length):(dv ds)[i]? = some (.int .u64 (ds.getD i 0:Nat)):=by simp [dv,h]
theorem zAp (n:Nat):(List.replicate n [Value.int .u64 0]).flatten=dv (List.replicate n 0):=by
 simp only [dv,List.map_replicate]
 induction n with
 | zero=>rfl
 | succ n e=>simp only [gz,gn,e];rfl
theorem t_bne (h:(((a:Nat):Int) != ((b:Nat):Int))=true):a≠b:=by rw [fO] at h;omega
theorem f_bne (h:(((a:Nat):Int) != ((b:Nat):Int))=false):a=b:=by
 have:=fP.1 h;omega
theorem t_beq (h:(((a:Nat):Int)==((b:Nat):Int))=true):a=b:=by rw [ge] at h;omega
theorem f_beq (h:(((a:Nat):Int)==((b:Nat):Int))=false):a≠b:=by
 have:=dk.1 h;omega
theorem t_lt (h:decide (((a:Nat):Int)<((b:Nat):Int))=true):a<b:=by rw [eA] at h;omega
theorem f_lt (h:decide (((a:Nat):Int)<((b:Nat):Int))=false):b<=a:=by rw [ii] at h;omega
theorem zm {x:Int} (e : -9223372036854775808<=x) (A:x<9223372036854775808):IntKind.i64.wrap x=x:=by
 simp only [IntKind.wrap,IntKind.bits,IntKind.signed];by_cases h:0<=x
 . simp;omega
 . simp;omega
theorem zCm (x:Int):IntKind.u64.wrap x=x%18446744073709551616:=by
 simp [IntKind.wrap,IntKind.bits,IntKind.signed]
theorem wrap_succ (h:i<4611686018427387904):IntKind.i64.wrap ((i:Int)+1)=((i+1:Nat):Int):=by
 rw [zm oM oM];omega
theorem zAq {l:List Nat} (h:Blk w b 164 (zBr (dv l) o [.int .u64 (d:Int)])) (e:o=i):Blk w b 164 (dv (l.set i d)):=by
 subst e;rw [<- zST];exact h
def sz (x:Rat):Nat:=x.num.natAbs.log2+x.den.log2
def rroom (x y:Rat):Bool:=decide (sz x+sz y<1099511627776)
def radd (x y:Rat):Option Rat:=if rroom x y then some (x+y) else none
def rsub (x y:Rat):Option Rat:=if rroom x y then some (x-y) else none
def rmul (x y:Rat):Option Rat:=if rroom x y then some (x*y) else none
def rdiv (x y:Rat):Option Rat:=if rroom x y then some (x/y) else none
def rsign (x:Rat):Int:=x.num.sign
def rcmp (x y:Rat):Option Int:=if rroom x y then some (if x<y then -1 else if x=y then 0 else 1) else none
def rabs (x:Rat):Rat:=if x<0 then -x else x
abbrev Poly:=List Rat
def trim (p:Poly):Poly:=(p.reverse.dropWhile fun x=>decide (x=0)).reverse
def top (p:Poly):Rat:=p.getD (p.length-1) 0
def addAt:Poly->Nat->Poly->Option Poly
 | [],_,O=>some O
 | c :: q,i,O=>(radd (O.getD i 0) c).bind fun s=>addAt q (i+1) (O.set i s)
def padd (p q:Poly):Option Poly:=(if p.length<q.length then addAt p 0 q else addAt q 0 p).map trim
def mapO {α β:Type} (f:α->Option β):List α->Option (List β)
 | []=>some []
 | x :: l=>(f x).bind fun y=>(mapO f l).bind fun r=>some (y :: r)
def zDg (p:Poly) (x:Rat):Option Poly:=(mapO (fun c=>rmul c x) p).map trim
def psub (p q:Poly):Option Poly:=(zDg q (-1)).bind fun m=>padd p m
def zIB (a:Rat):Poly->Nat->Poly->Option Poly
 | [],_,O=>some O
 | b :: q,k,O=>(rmul a b).bind fun m=>(radd (O.getD k 0) m).bind fun s=>zIB a q (k+1) (O.set k s)
def mulL (q:Poly):Poly->Nat->Poly->Option Poly
 | [],_,O=>some O
 | a :: p,i,O=>if a=0 then mulL q p (i+1) O else (zIB a q i O).bind fun O'=>mulL q p (i+1) O'
def pmul (p q:Poly):Option Poly:=if 4096<p.length+q.length then none else (mulL q p 0 (List.replicate (p.length+q.length) 0)).map trim
def zFN:Poly->Nat->Option Poly
 | [],_=>some []
 | c :: p,i=>if i=0 then zFN p 1 else (rmul c (i:Rat)).bind fun m=>(zFN p (i+1)).bind fun r=>some (m :: r)
def zCN (p:Poly):Option Poly:=(zFN p 0).map trim
def evalL (x:Rat):Poly->Rat->Option Rat
 | [],e=>some e
 | c :: p,e=>(rmul e x).bind fun m=>(radd m c).bind fun s=>evalL x p s
def peval (p:Poly) (x:Rat):Option Rat:=evalL x p.reverse 0
def zHJ (c:Rat):Poly->Nat->Poly->Option Poly
 | [],_,O=>some O
 | d :: q,k,O=>(rmul c d).bind fun m=>(rsub (O.getD k 0) m).bind fun s=>zHJ c q (k+1) (O.set k s)
def divL (q:Poly):Nat->Poly->Poly->Option (Poly×Poly)
 | 0,_,_=>none
 | f+1,e,quo=>if e.length<q.length then some (trim quo,e) else
  (rdiv (top e) (top q)).bind fun c=>(zHJ c q (e.length-q.length) e).bind fun r=>divL q f (trim r) (quo.set (e.length-q.length) c)
def pdiv (p q:Poly):Option (Poly×Poly) :=
 if trim q=[] then none else divL (trim q) ((trim p).length+1) (trim p) (List.replicate ((trim p).length+1-(trim q).length) 0)
def zCO (p q:Poly):Option Poly:=(pdiv p q).map Prod.fst
def monic (p:Poly):Option Poly:=if trim p=[] then some [] else (rdiv 1 (top (trim p))).bind fun c=>zDg (trim p) c
def zBT:Nat->Poly->Poly->Option Poly
 | 0,_,_=>none
 | f+1,p,q=>if q=[] then some p else (pdiv p q).bind fun r=>(monic r.2).bind fun m=>zBT f q m
def zBt (p q:Poly):Option Poly:=(monic p).bind fun p=>(monic q).bind fun q=>zBT (q.length+1) p q
def zCU (p:Poly):Option Poly:=if trim p=[] then some [] else (rdiv 1 (rabs (top (trim p)))).bind fun c=>zDg (trim p) c
def zBe:Nat->Poly->Poly->Option (List Poly)
 | 0,_,_=>none
 | f+1,p,q=>if p=[] then some [] else if q=[] then some [p] else
  (pdiv p q).bind fun r=>(zDg r.2 (-1)).bind fun s=>(zCU s).bind fun s=>(zBe f q s).bind fun l=>some (p :: l)
def chain (p q:Poly):Option (List Poly):=(zCU p).bind fun p=>(zCU q).bind fun q=>zBe (q.length+2) p q
def flipL:List Int->Int->Int->Int
 | [],_,n=>n
 | s :: l,e,n=>if s=0 then flipL l e n else flipL l s (if (e=1/\s = -1)\/(e = -1/\s=1) then n+1 else n)
def endS (e:Bool) (p:Poly):Int:=if e=true/\p.length%2=0 then-rsign (top p) else rsign (top p)
def atS (x:Rat) (p:Poly):Option Int:=(peval p x).map rsign
def zAv (e:Bool) (c:List Poly):Int:=flipL (c.map (endS e)) 0 0
def zJJ (x:Rat) (c:List Poly):Option Int:=(mapO (atS x) c).map fun l=>flipL l 0 0
def zRc (p:Poly):Option Poly:=(zCN p).bind fun d=>(zBt p d).bind fun g=>zCO p g
def own (p:Poly):Option (List Poly):=(zRc p).bind fun s=>(zCN s).bind fun d=>chain s d
def zJY:Nat->Poly->Int->Option Int
 | 0,_,_=>none
 | f+1,p,n=>if (trim p).length<=1 then some n else
  (own p).bind fun c=>(zCN p).bind fun d=>(zBt p d).bind fun g=>zJY f g (n+(zAv true c-zAv false c))
def times (p:Poly):Option Int:=zJY (p.length+1) p 0
def zJF (x y:Poly):Poly->Poly->Poly->Option (Poly×Poly)
 | [],re,im=>some (re,im)
 | c :: p,re,im=>(pmul re x).bind fun a=>(pmul im y).bind fun b=>(psub a b).bind fun s=>(padd s [c]).bind fun re' =>
  (pmul re y).bind fun e=>(pmul im x).bind fun g=>(padd e g).bind fun im'=>zJF x y p re' im'
def along (p x y:Poly):Option (Poly×Poly):=zJF x y p.reverse [] []
def half2 (n:Int):Int:=n.tdiv 2
def zJT (p:Poly):Option (Int×Int) :=
 (along (trim p) [] [0,1]).bind fun h=>(zBt h.1 h.2).bind fun g=>(times g).bind fun axis =>
  (zCO h.1 g).bind fun re=>(zCO h.2 g).bind fun im =>
   let n:Int:=max (re.length:Int) im.length-1
   let s:Bool:=decide (im.length<re.length)
   (chain (if s then re else im) (if s then im else re)).bind fun c =>
    let e:Int:=(if s then -1 else 1)*(zAv true c-zAv false c)
    some (half2 (((trim g).length:Int)-1-axis)+half2 (n-e),axis)
def asked (p:Poly):Int:=if 41<(trim p).length then 3 else if trim p=[] then 8 else 0
def routh (p:Poly):Option (Int×Int×Int):=if asked p≠0 then some (0,0,asked p) else (zJT p).map fun r=>(r.1,r.2,0)
def sgn (s:Bool) (a:Nat):Int:=if s then -(a:Int) else (a:Int)
theorem zIx (s:Bool) (a:Nat):(sgn s a).natAbs=a:=by cases s<;>simp [sgn]
def qOf (s:Bool) (a b:Nat):Rat:=mkRat (sgn s a) b
theorem zNP (s:Bool) (b:Nat):qOf s 0 b=0:=by cases s<;>simp [qOf,sgn]
theorem zIo {s:Bool} (e:b≠0):(qOf s a b).num.natAbs=a/Nat.gcd a b:=by
 rw [qOf,Rat.num_mkRat,ct e,zIx,gx b a];have h:((Nat.gcd a b:Nat):Int)∣(a:Int):=Int.natCast_dvd_natCast.2 (ij a b);cases s
 . simp only [sgn,ew,fY];rw [<- Int.natCast_ediv,gW]
 . simp only [sgn,ga];rw [Int.neg_ediv_of_dvd h,fx,<- Int.natCast_ediv,gW]
theorem zLB {s:Bool} (e:b≠0):(qOf s a b).den=b/Nat.gcd a b:=by
 rw [qOf,Rat.den_mkRat,ct e,zIx,gx b a]
theorem zCE (x:Rat):x<0↔x.num<0:=by
 have h := @Rat.num_nonneg x;rw [<- Rat.not_le,<- h];omega
theorem zPu {s:Bool} (C:a≠0) (A:b≠0):decide (qOf s a b<0)=s:=by
 have B:0<Nat.gcd a b:=Nat.gcd_pos_of_pos_left _ oM;have hpos:0<a/Nat.gcd a b:=Nat.div_pos (Nat.le_of_dvd oM (ij a b)) B;have hd:((Nat.gcd a b:Nat):Int)∣(a:Int):=Int.natCast_dvd_natCast.2 (ij a b);have key:(qOf s a b).num=sgn s (a/Nat.gcd a b):=by
  rw [qOf,Rat.num_mkRat,ct A,zIx,gx b a];cases s
  . simp only [sgn,ew,fY];rw [<- Int.natCast_ediv]
  . simp only [sgn,ga];rw [Int.neg_ediv_of_dvd hd,<- Int.natCast_ediv]
 have e:(qOf s a b<0)↔s=true:=by
  rw [zCE,key];cases s
  . simp only [sgn,ew,fY,iff_false];omega
  . simp only [sgn,ga,iff_true];omega
 cases s
 . exact cU (fun h=>by simpa using e.1 h)
 . exact cZ (e.2 rfl)
theorem zHc (x:Rat):x.num=sgn (decide (x<0)) x.num.natAbs:=by
 by_cases h:x<0
 . have A:=(zCE x).1 h;rw [cZ h];simp only [sgn,ga];omega
 . have A:¬ x.num<0:=fun e=>h ((zCE x).2 e);rw [cU h];simp only [sgn,ew,fY];omega
theorem zTN (s t:Bool) (a b:Nat):sgn s a*sgn t b=sgn (s != t) (a*b):=by
 cases s<;>cases t<;>simp [sgn,Int.neg_mul,Int.mul_neg]
theorem q_mul (x y:Rat):x*y=qOf (decide (x<0) != decide (y<0)) (x.num.natAbs*y.num.natAbs) (x.den*y.den):=by
 rw [Rat.mul_def',qOf,<- zTN,<- zHc,<- zHc]
theorem zMC (x y:Rat) (h:decide (x<0)=decide (y<0)):x+y=qOf (decide (x<0)) (x.num.natAbs*y.den+y.num.natAbs*x.den) (x.den*y.den):=by
 rw [Rat.add_def',qOf];congr 1;have e:=zHc x;have h2:=zHc y;rw [<- h] at h2
 conv=>lhs;rw [e,h2]
 cases decide (x<0)<;>simp only [sgn,ew,fY,ga,Int.natCast_add,gj,Int.neg_mul,Int.neg_add]
theorem zRX (s:Bool) (a d:Nat):sgn s a*(d:Int)=sgn s (a*d):=by
 cases s<;>simp [sgn,Int.neg_mul]
theorem sgn_add_lt {s t:Bool} {A C:Nat} (h:s≠t) (e:A<=C):sgn s A+sgn t C=sgn t (C-A):=by
 cases s<;>cases t
 . exact absurd rfl h
 . simp only [sgn,ew,fY,ga];omega
 . simp only [sgn,ew,fY,ga];omega
 . exact absurd rfl h
theorem zIp (x y:Rat) (h:decide (x<0)≠decide (y<0)) (e:x.num.natAbs*y.den<=y.num.natAbs*x.den):x+y=qOf (decide (y<0)) (y.num.natAbs*x.den-x.num.natAbs*y.den) (x.den*y.den):=by
 rw [Rat.add_def',qOf,<- sgn_add_lt h e,<- zRX,<- zRX,<- zHc,<- zHc]
theorem zMB (x y:Rat) (h:decide (x<0)≠decide (y<0)) (e:y.num.natAbs*x.den<=x.num.natAbs*y.den):x+y=qOf (decide (x<0)) (x.num.natAbs*y.den-y.num.natAbs*x.den) (x.den*y.den):=by
 rw [Rat.add_comm,zIp y x (eH h) e,dm y.den]
theorem q_div (x y:Rat) (B:y≠0):x/y=qOf (decide (x<0) != decide (y<0)) (x.num.natAbs*y.den) (x.den*y.num.natAbs):=by
 have C:y.num≠0:=fun e=>B (fG.1 e);rw [iD,Rat.inv_def]
 conv=>lhs;rw [<- Rat.num_divInt_den x]
 rw [Rat.divInt_mul_divInt,qOf,<- zTN,<- zHc];have A:∀ m:Nat,((x.den*m:Nat):Int)=(x.den:Int)*(m:Int):=fun m=>gj _ _;by_cases hn:y<0
 . have e:y.num = -(y.num.natAbs:Int):=by have:=(zCE y).1 hn;omega
   rw [cZ hn,<- Rat.divInt_ofNat,A];simp only [sgn,ga]
   conv=>lhs;rw [e]
   rw [Int.mul_neg,Rat.divInt_neg',Int.mul_neg]
 . have e:y.num=(y.num.natAbs:Int):=by have:¬ y.num<0:=fun h=>hn ((zCE y).2 h);omega
   rw [cU hn,<- Rat.divInt_ofNat,A];simp only [sgn,ew,fY]
   conv=>lhs;rw [e]
def zIj (e:Nat->Option Rat):Nat->Poly->Option Poly
 | 0,O=>some O
 | k+1,O=>(e k).bind fun c=>(rmul (O.getD (k+1) 0) c).bind fun x=>zIj e k (O.set k x)
def zTp (n:Nat) (e:Nat->Option Rat):Option Poly:=zIj e n ((List.replicate (n+1) 0).set n 1)
def fracA (p:Poly):Poly:=p.mapIdx fun k c=>if (p.length-1-k)%2=0 then c else 0
def fracB (p:Poly):Poly:=trim (p.mapIdx fun k c=>if (p.length-1-k)%2=0 then 0 else c)
def fracL:Nat->Poly->Poly->Option (Option Poly)
 | 0,_,_=>some (some [])
 | n+1,a,b=>if b.length+1≠a.length then some none else
  (rdiv (top a) (top b)).bind fun q=>(pmul b [0,q]).bind fun m=>(psub a m).bind fun c=>(fracL n b c).map (Option.map (q :: ·))
def zCf (p:Poly):Option (Poly×Int) :=
 if asked p≠0 then some ([],asked p) else (fracL ((trim p).length-1) (fracA (trim p)) (fracB (trim p))).map fun r=>match r with | some l=>(l,0) | none=>([],6)
def zJN (p:Poly):Option (Poly×Int) :=
 (routh p).bind fun r=>if r.2.2≠0 then some ([],r.2.2) else if 0<r.1+r.2.1 then some ([],180) else zCf p
def zRf (p:Poly):Option Poly :=
 let q:=p.mapIdx fun k c=>if 2<=k%4 then -c else c
 let a:=q.mapIdx fun k c=>if k%2=0 then c else 0
 let b:=q.mapIdx fun k c=>if k%2=0 then 0 else c
 (pmul a a).bind fun x=>(pmul b b).bind fun y=>padd x y
def zRE:Nat->Poly->Poly->Option (List Poly)
 | 0,_,_=>none
 | f+1,b,c=>if (trim b).length<=1 then some [] else
  (zCN b).bind fun d=>(psub c d).bind fun rest=>(zBt b rest).bind fun part=>(zCO b part).bind fun b'=>(zCO rest part).bind fun c'=>(zRE f b' c').map (part :: ·)
def parts (p:Poly):Option (List Poly) :=
 (monic p).bind fun p=>(zCN p).bind fun d=>(zBt p d).bind fun g=>(zCO p g).bind fun b=>(zCO d g).bind fun c=>zRE (p.length+1) b c
def count (p:Poly) (e h:Rat):Option (Int×Int):=if asked p≠0 then some (0,asked p) else (rcmp e h).bind fun z=>if 0<z then some (0,7) else
 (own p).bind fun c=>(zJJ e c).bind fun a=>(zJJ h c).bind fun b=>some (a-b,0)
def zID (h e:Rat):List Poly->Nat->Option Bool
 | [],_=>some true
 | f :: l,i=>if i%2=1\/(trim f).length<=1\/h=e then zID h e l (i+1) else
  (count f h e).bind fun n=>if 1<n.1 then some false else if n.1=1 then (peval f e).bind fun v=>if v=0 then zID h e l (i+1) else some false else zID h e l (i+1)
def zOU (p:Poly) (e:Rat):Nat->Rat->Option Bool
 | 0,_=>none
 | f+1,x=>(radd e x).bind fun s=>(rmul s (1/2)).bind fun m=>(peval p m).bind fun v=>if v=0 then zOU p e f m else some (decide (0<v))
def zJP (p:Poly) (e h:Rat):Option Bool :=
 (peval p e).bind fun a=>if a<0 then some false else (peval p h).bind fun b=>if b<0 then some false else
  if asked p≠0 then some true else (parts p).bind fun l=>(rcmp e h).bind fun z=>(zID e h l 0).bind fun n=>if n=false then some false else
   if z<0 then zOU p e (p.length+1) h else some true
def rules (num A:Poly) (e h:Rat):Option (Poly×Poly) :=
 (zRf num).bind fun n=>(zRf A).bind fun d=>(zDg d h).bind fun x=>(psub x n).bind fun up=>(zDg d e).bind fun y=>(psub n y).bind fun low=>some (up,low)
structure Band where
 lo:Rat
 hi:Rat
 least:Rat
 most:Rat
def fails (num e:Poly) (b:Band):Option Bool :=
 (rules num e b.least b.most).bind fun r=>(zJP r.1 b.lo b.hi).bind fun a=>if a=false then some true else (zJP r.2 b.lo b.hi).map not
def zIi (num e:Poly):List Band->Nat->Option Int
 | [],_=>some (-1)
 | b :: l,i=>(fails num e b).bind fun f=>if f then some i else zIi num e l (i+1)
def witJ (up low:Poly) (e w:Rat) (n:Nat):Nat->Nat->Option (Option Rat)
 | 0,_=>some none
 | f+1,j=>(rdiv j n).bind fun q=>(rmul w q).bind fun m=>(radd e m).bind fun x=>(peval up x).bind fun a=>if a<0 then some (some x) else (peval low x).bind fun b=>if b<0 then some (some x) else witJ up low e w n f (j+1)
def witN (up low:Poly) (e w:Rat):Nat->Nat->Option Rat
 | 0,_=>none
 | f+1,n=>(witJ up low e w n (n+1) 0).bind fun r=>match r with | some x=>some x | none=>witN up low e w f (2*n)
variable {E bytes n:Nat} {K:Value->World->Prop} {P:Program} {af:Array Edge} {g:Option (Nat×Bool)} {k':IntKind} {pos:String} {r:Option Nat} {ty:TypeId} {σ:Operand->Value}
section laws
open Go Go.RowKit Go.Proofs Tryz
variable {d:Option Tmp}
theorem runs_makeSliceC {T:Nat} {z:Value} {x y:Operand} {k:IntKind} {len cap:Int} (hT:P.underlying T=some (.slice E)) (H:(P.info? E).map (fun i=>(i.zero,i.size,i.bytes))=some (some z,n,bytes)) (F:z.cells.size=n)
 (hx:σ x = .int k len) (hy:σ y = .int k' cap) (h0:0<=len) (al:len<=cap) (h1:cap<9223372036854775808) (h2:bytes*cap<=281474976710656)
 (hk:∀ b w',b=w.heap.size->Ext w w'->Blk w' b E ((List.replicate cap.toNat z.cells.toList).flatten)->w'.heap.size=b+1->K (.slice (some ⟨b,0,none⟩) len.toNat cap.toNat) w'):Runs P r ⟨d,.makeSlice T x y,ty,pos,af,g⟩ σ w K:=by
 cases B:P.info? E with
 | none=>simp [B] at H
 | some Y =>
  simp [B] at H;obtain ⟨e1,e2,Z⟩:=H;have hw:IntKind.i64.wrap len=len:=by
   have:len%18446744073709551616=len:=oM
   simp [IntKind.wrap,IntKind.bits,IntKind.signed,this];omega
  have I:IntKind.i64.wrap cap=cap:=by
   have:cap%18446744073709551616=cap:=oM
   simp [IntKind.wrap,IntKind.bits,IntKind.signed,this];omega
  have G:(if cap.toNat*n=0 then (#[]:Array Value) else z.cells)=(if cap.toNat*n=0 then #[] else z.cells):=rfl;have hflat:((Array.range (cap.toNat*n)).map fun i=>((if cap.toNat*n=0 then (#[]:Array Value) else z.cells)[i%(if cap.toNat*n=0 then (#[]:Array Value) else z.cells).size]!))=⟨(List.replicate cap.toNat z.cells.toList).flatten⟩:=by
   by_cases A:cap.toNat*n=0
   . simp only [A,ga];rcases Nat.mul_eq_zero.1 A with h | h
     . simp [h]
     . have:z.cells.toList=[]:=by
        have:z.cells.toList.length=0:=by simp [F,h]
        exact ef this
       simp [this]
   . rw [ct A];apply Array.ext';simp only [Array.toList_map,Array.toList_range];have M:∀ (m:Nat) (l:List Value),0<l.length->(List.range (m*l.length)).map (fun i=>l[i%l.length]!)=(List.replicate m l).flatten:=by
      intro m l hl
      induction m with
      | zero=>simp
      | succ m ih =>
       rw [List.replicate_succ',List.flatten_append,<- ih,Nat.succ_mul,List.range_add,eK,iF];congr 1;simp only [gn,List.flatten_nil,fu];apply gw;intro j;simp only [fC];by_cases hj:j<l.length
       . simp [hj,fL hj]
       . simp [hj]
     have O:0<n:=by
      rcases fV n with h | h
      . simp [h] at A
      . exact h
     have:=M cap.toNat z.cells.toList (by simpa [F] using O);simp only [Array.length_toList,F] at this;rw [<- this,F];apply List.map_congr_left;intro i _;simp [getElem!_def]
  refine zBp (fun _ e=>by cases e) (v := .slice (some ⟨w.heap.size,0,none⟩) len.toNat cap.toNat) (w':={ w with heap:=w.heap.push (.cells ⟨(List.replicate cap.toNat z.cells.toList).flatten⟩ E) }) ?_ ?_
  . have U:¬ len<0:=by omega
    have V:¬ cap<0:=oM
    have C:¬ cap<len:=oM
    have hb:¬ ((Y.bytes:Int)*cap>281474976710656):=by rw [Z];omega
    simp only [execOp,Instr.makeSlice,hx,hy];simp [run_underlying hT,asInt,asIntOf,typeInfo,B,hw,I,U,V,C,sizeOf,e2];have X:¬ 281474976710656<(Y.bytes:Int)*cap:=by rw [Z];omega
    rw [ct X,<- hflat];by_cases A:cap.toNat*n=0
    . rw [cD A];simp [A,newRow]
    . rw [ct A];simp [A,zeroValue,typeInfo,B,e1,newRow]
  . refine hk _ _ rfl (Ext.push _) ?_ sM;simp [Blk]
end laws
variable {p q:Poly} {x y z:Rat} {α β:Type}
theorem cbind {o:Option α} {f:α->Option β} {b:β} (h:o.bind f=some b):∃ a,o=some a/\f a=some b:=by
 cases o with
 | none=>cases h
 | some a=>exact ⟨a,rfl,h⟩
theorem cmap {o:Option α} {f:α->β} {b:β} (h:o.map f=some b):∃ a,o=some a/\f a=b:=by
 cases o with
 | none=>cases h
 | some a=>exact ⟨a,rfl,dj h⟩
theorem zTG (h:radd x y=some z):z=x+y:=by
 unfold radd at h;split at h
 . exact (dj h).symm
 . cases h
theorem rsub_eq (h:rsub x y=some z):z=x-y:=by
 unfold rsub at h;split at h
 . exact (dj h).symm
 . cases h
theorem zNU (h:rmul x y=some z):z=x*y:=by
 unfold rmul at h;split at h
 . exact (dj h).symm
 . cases h
theorem zFD (h:rdiv x y=some z):z=x/y:=by
 unfold rdiv at h;split at h
 . exact (dj h).symm
 . cases h
def co (p:Poly) (k:Nat):Rat:=p.getD k 0
theorem zAa (k:Nat):co [] k=0:=rfl
theorem zAf (a:Rat) (p:Poly):co (a :: p) 0=a:=rfl
theorem zAF (a:Rat) (p:Poly) (k:Nat):co (a :: p) (k+1)=co p k:=rfl
theorem co_ge {l:Poly} (h:l.length<=k):co l k=0:=by
 unfold co;rw [cC,ez h];rfl
theorem zDN {l:Poly} (h:i<l.length):co (l.set i x) k=if k=i then x else co l k:=by
 unfold co;rw [cC,cC,List.getElem?_set];by_cases e:i=k
 . subst e;simp [h]
 . rw [ct e,ct (eH e)]
theorem zFK {l:Poly} (h:k<l.length):co l k=l[k]:=by
 unfold co;rw [cC,cY h];rfl
theorem zTj (e:p.length=q.length) (h:∀ k,co p k=co q k):p=q :=
 gc e fun i A B=>by have:=h i;rwa [zFK A,zFK B] at this
theorem co_append_l (h:k<p.length):co (p++q) k=co p k:=by
 rw [zFK (by simp;omega),zFK h,List.getElem_append_left h]
theorem zBG (n k:Nat):co (List.replicate n 0) k=0:=by
 by_cases h:k<n
 . rw [zFK (by simpa using h)];simp
 . exact co_ge (by simp;omega)
theorem zGL {α:Type} (p:α->Bool):∀ l:List α,∃ n,n<=l.length/\l.dropWhile p=l.drop n/\(∀ i,(h:i<l.length)->i<n->p l[i]=true)/\(∀ h:n<l.length,p l[n]=false)
 | []=>⟨0,cX _,rfl,fun i h=>absurd h sM,fun h=>absurd h sM⟩
 | a :: l=>by
  by_cases e:p a=true
  . obtain ⟨n,B,C,F,G⟩:=zGL p l;refine ⟨n+1,by simpa using B,by simp [List.dropWhile,e,C],fun i h A => ?_,fun h => ?_⟩
    . cases i with
      | zero=>exact e
      | succ i=>exact F i (by simpa using h) oM
    . exact G (by simpa using h)
  . exact ⟨0,di _,by simp [List.dropWhile,e],fun i h A=>absurd A oM,fun _=>by simpa using e⟩
def Trimd (p:Poly):Prop:=∀ n,p.length=n+1->co p n≠0
theorem zLP (p:Poly):∃ m,m<=p.length/\trim p=p.take m/\(∀ k,m<=k->co p k=0)/\(∀ n,m=n+1->co p n≠0):=by
 obtain ⟨n,h,A,B,C⟩:=zGL (fun x:Rat=>decide (x=0)) p.reverse;rw [List.length_reverse] at h;refine ⟨p.length-n,oM,?_,fun k H => ?_,fun m I => ?_⟩
 . unfold trim;rw [A,List.drop_reverse,List.reverse_reverse]
 . by_cases F:k<p.length
   . have:=B (p.length-1-k) (by simp;omega) oM;rw [List.getElem_reverse] at this;rw [zFK F];have e:p.length-1-(p.length-1-k)=k:=by omega
     simpa [e] using this
   . exact co_ge oM
 . have G:n<p.length:=by omega
   have:=C (by simpa using G);rw [List.getElem_reverse] at this;have e:p.length-1-n=m:=oM
   rw [zFK oM];simpa [e] using this
theorem zHK (p:Poly):(trim p).length<=p.length:=by
 obtain ⟨m,h,e,_⟩:=zLP p;rw [e];simp;omega
theorem zAU (p:Poly) (k:Nat):co (trim p) k=co p k:=by
 obtain ⟨m,B,e,A,_⟩:=zLP p;rw [e];by_cases h:k<m
 . rw [zFK (by simp;omega),zFK oM];simp
 . rw [co_ge (by simp;omega),A k oM]
theorem ze (p:Poly):Trimd (trim p):=fun n e=>by
 obtain ⟨m,B,h,_,A⟩:=zLP p;rw [h] at e;simp at e;rw [zAU];exact A n oM
theorem zAr (h:Trimd p) (A:∀ i,k<=i->co p i=0):p.length<=k:=by
 rcases dR k p.length with e | e
 . exact absurd (A (p.length-1) oM) (h (p.length-1) oM)
 . exact e
theorem zSG (h:co p k≠0):k<p.length:=by
 rcases dR k p.length with e | e
 . exact e
 . exact absurd (co_ge e) h
theorem zBW (e:Trimd p) (A:Trimd q) (h:∀ k,co p k=co q k):p=q:=by
 have B:p.length<=q.length:=zAr e fun i hi=>by rw [h i,co_ge hi]
 have C:q.length<=p.length:=zAr A fun i hi=>by rw [<- h i,co_ge hi]
 exact zTj oM h
theorem zo (h:Trimd p):trim p=p:=zBW (ze p) h (zAU p)
theorem zGY (p:Poly):trim (trim p)=trim p:=zo (ze p)
theorem zEE:Trimd []:=fun n h=>by cases h
theorem zCR (h:Trimd p) (e:co p n≠0) (A:∀ i,n<i->co p i=0):p.length=n+1:=by
 have:=zSG e;have:=zAr h (k:=n+1) fun i hi=>A i oM;omega
theorem zJa (h:Trimd p) (e:∀ i,co p i=0):p=[]:=fe.1 (by have:=zAr h (k:=0) fun i _=>e i;omega)
theorem zBM (p:Poly):top p=co p (p.length-1):=rfl
theorem zEM (h:Trimd p) (e:p≠[]):top p≠0:=by
 have:0<p.length:=eC.2 e;exact h (p.length-1) oM
theorem zMd:∀ {q:Poly} {i:Nat} {O R:Poly},addAt q i O=some R->i+q.length<=O.length->R.length=O.length/\∀ k,co R k=co O k+if i<=k then co q (k-i) else 0
 | [],i,O,R,h,_=>by cases h;exact ⟨rfl,fun k=>by simp [zAa,eD]⟩
 | c :: q,i,O,R,h,C=>by
  obtain ⟨s,A,h⟩:=cbind h;have A:=zTG A;simp at C;obtain ⟨F,G⟩:=zMd h (by simp;omega);refine ⟨by simpa using F,fun k => ?_⟩;rw [G k,zDN oM];change s=co O i+c at A;by_cases e:k=i
  . subst e;rw [cD rfl,ct oM,cD (cX _),fM,zAf];grind
  . rw [ct e];by_cases B:i+1<=k
    . rw [cD B,cD oM,show k-i=(k-(i+1))+1 by omega,zAF]
    . rw [ct B,ct oM]
theorem zHd {r:Poly} (h:padd p q=some r):Trimd r/\∀ k,co r k=co p k+co q k:=by
 obtain ⟨s,e,rfl⟩:=cmap h;refine ⟨ze _,fun k => ?_⟩;rw [zAU];split at e
 . rw [(zMd e oM).2 k];simp;grind
 . rw [(zMd e oM).2 k];simp
theorem zSv {x:Rat}:∀ {p r:Poly},mapO (fun c=>rmul c x) p=some r->r.length=p.length/\∀ k,co r k=co p k*x
 | [],r,h=>by cases h;exact ⟨rfl,fun k=>by simp [zAa,dO]⟩
 | c :: p,r,h=>by
  obtain ⟨y,e,h⟩:=cbind h;obtain ⟨t,A,h⟩:=cbind h;cases h;obtain ⟨B,C⟩:=zSv A;refine ⟨by simp [B],fun k => ?_⟩;cases k with
  | zero=>exact zNU e
  | succ k=>exact C k
theorem zBD {r:Poly} (h:zDg p x=some r):Trimd r/\∀ k,co r k=co p k*x:=by
 obtain ⟨s,e,rfl⟩:=cmap h;exact ⟨ze _,fun k=>by rw [zAU,(zSv e).2]⟩
theorem zEH {r:Poly} (h:psub p q=some r):Trimd r/\∀ k,co r k=co p k-co q k:=by
 obtain ⟨m,e,h⟩:=cbind h;obtain ⟨A,B⟩:=zHd h;exact ⟨A,fun k=>by rw [B,(zBD e).2];grind⟩
theorem zPJ {c:Rat}:∀ {q:Poly} {i:Nat} {O R:Poly},zHJ c q i O=some R->i+q.length<=O.length->R.length=O.length/\∀ k,co R k=co O k-if i<=k then c*co q (k-i) else 0
 | [],i,O,R,h,_=>by cases h;exact ⟨rfl,fun k=>by simp [zAa,ed];grind⟩
 | d :: q,i,O,R,h,F=>by
  obtain ⟨m,B,h⟩:=cbind h;obtain ⟨s,A,h⟩:=cbind h;have B:=zNU B;have A:=rsub_eq A;simp at F;obtain ⟨G,H⟩:=zPJ h (by simp;omega);refine ⟨by simpa using G,fun k => ?_⟩;rw [H k,zDN oM];change s=co O i-m at A;by_cases e:k=i
  . subst e;rw [cD rfl,ct oM,cD (cX _),fM,zAf];grind
  . rw [ct e];by_cases C:i+1<=k
    . rw [cD C,cD oM,show k-i=(k-(i+1))+1 by omega,zAF]
    . rw [ct C,ct oM]
theorem zOe {a:Rat}:∀ {q:Poly} {i:Nat} {O R:Poly},zIB a q i O=some R->i+q.length<=O.length->R.length=O.length/\∀ k,co R k=co O k+if i<=k then a*co q (k-i) else 0
 | [],i,O,R,h,_=>by cases h;exact ⟨rfl,fun k=>by simp [zAa,ed];grind⟩
 | d :: q,i,O,R,h,F=>by
  obtain ⟨m,B,h⟩:=cbind h;obtain ⟨s,A,h⟩:=cbind h;have B:=zNU B;have A:=zTG A;simp at F;obtain ⟨G,H⟩:=zOe h (by simp;omega);refine ⟨by simpa using G,fun k => ?_⟩;rw [H k,zDN oM];change s=co O i+m at A;by_cases e:k=i
  . subst e;rw [cD rfl,ct oM,cD (cX _),fM,zAf];grind
  . rw [ct e];by_cases C:i+1<=k
    . rw [cD C,cD oM,show k-i=(k-(i+1))+1 by omega,zAF]
    . rw [ct C,ct oM]
def conv:Poly->Poly->Nat->Rat
 | [],_,_=>0
 | a :: _,q,0=>a*co q 0
 | a :: p,q,k+1=>a*co q (k+1)+conv p q k
theorem zDt (q:Poly) (k:Nat):conv [] q k=0:=by cases k<;>rfl
theorem zEc (a:Rat) (p q:Poly):conv (a :: p) q 0=a*co q 0:=rfl
theorem zDe (a:Rat) (p q:Poly) (k:Nat):conv (a :: p) q (k+1)=a*co q (k+1)+conv p q k:=rfl
theorem zSy {q:Poly}:∀ {p:Poly} {i:Nat} {O R:Poly},mulL q p i O=some R->i+p.length+q.length<=O.length->R.length=O.length/\∀ k,co R k=co O k+if i<=k then conv p q (k-i) else 0
 | [],i,O,R,h,_=>by cases h;exact ⟨rfl,fun k=>by simp [conv,eD]⟩
 | a :: p,i,O,R,h,M=>by
  simp at M;have B:∀ A,A.length=O.length->(∀ k,co A k=co O k+if i<=k then a*co q (k-i) else 0)->mulL q p (i+1) A=some R->R.length=O.length/\∀ k,co R k=co O k+if i<=k then conv (a :: p) q (k-i) else 0:=fun A G C F=>by
   obtain ⟨H,U⟩:=zSy F oM;refine ⟨oM,fun k => ?_⟩;rw [U k,C k];by_cases e:k=i
   . subst e;rw [cD (cX _),ct oM,cD (cX _),fM,zEc];grind
   . by_cases I:i+1<=k
     . rw [cD I,cD oM,cD oM,show k-i=(k-(i+1))+1 by omega,zDe];grind
     . rw [ct I,ct oM,ct oM];grind
  unfold mulL at h;split at h
  . next e=>subst e;exact B O rfl (fun k=>by simp [dO,eD]) h
  . obtain ⟨A,G,C⟩:=cbind h;obtain ⟨F,H⟩:=zOe G oM;exact B A F H C
theorem zDA {r:Poly} (h:pmul p q=some r):Trimd r/\∀ k,co r k=conv p q k:=by
 unfold pmul at h;split at h
 . cases h
 . obtain ⟨s,e,rfl⟩:=cmap h;refine ⟨ze _,fun k => ?_⟩;rw [zAU,(zSy e sM).2 k,zBG];simp [gs]
theorem zFM (q:Rat):∀ (b:Poly) (k:Nat),conv b [0,q] k=if k=0 then 0 else co b (k-1)*q
 | [],k=>by rw [zDt];simp [zAa,dO]
 | x :: b,0=>by rw [zEc];simp [zAf,ed]
 | x :: b,1=>by
  rw [zDe,zFM q b 0];simp [zAf,zAF,eD]
 | x :: b,k+2=>by
  rw [zDe,zFM q b (k+1)];simp [zAF,zAa,ed,gs]
theorem zBC {r:Poly} (h:zCN p=some r):Trimd r/\∀ k,co r k=co p (k+1)*((k+1:Nat):Rat):=by
 have A:∀ {p:Poly} {i:Nat} {s:Poly},zFN p (i+1)=some s->∀ k,co s k=co p k*((k+(i+1):Nat):Rat):=by
  intro p
  induction p with
  | nil=>intro i s h k;cases h;simp [zAa,dO]
  | cons c p B =>
   intro i s h k;unfold zFN at h;rw [ct oM] at h;obtain ⟨m,C,h⟩:=cbind h;obtain ⟨t,F,h⟩:=cbind h;cases h;cases k with
   | zero=>rw [zAf,zAf,dW];exact zNU C
   | succ k=>rw [zAF,zAF,B F k];congr 2;omega
 obtain ⟨s,e,rfl⟩:=cmap h;refine ⟨ze _,fun k => ?_⟩;rw [zAU];cases p with
 | nil=>cases e;simp [zAa,dO]
 | cons c p=>unfold zFN at e;rw [cD rfl] at e;rw [zAF,A e k]
variable {L:List Poly} {Q s:Poly}
theorem zz (h:p≠[]):0<p.length:=eC.2 h
theorem zAd (h:p.length=0):p=[]:=fe.1 h
theorem zBn (h:Trimd p) (e:p≠[]):co p (p.length-1)≠0:=h _ (by have:=zz e;omega)
theorem zGJ (q:Poly):∀ (k:Nat) (p:Poly),(∀ k,co p k=0)->conv p q k=0
 | k,[],_=>zDt q k
 | 0,a :: p,h=>by rw [zEc,show a=0 from h 0,dO]
 | k+1,a :: p,h=>by rw [zDe,show a=0 from h 0,dO,zGJ q k p fun k=>h (k+1),eD]
theorem zQZ (q:Poly):∀ (k:Nat) (p e:Poly),(∀ k,co p k=co e k)->conv p q k=conv e q k
 | k,[],e,h=>by rw [zGJ q k e fun k=>(h k).symm,zDt]
 | k,a :: p,[],h=>by rw [zGJ q k (a :: p) h,zDt]
 | 0,a :: p,b :: e,h=>by rw [zEc,zEc,show a=b from h 0]
 | k+1,a :: p,b :: e,h=>by rw [zDe,zDe,show a=b from h 0,zQZ q k p e fun k=>h (k+1)]
theorem zQa (q:Poly) (c:Rat):∀ (p:Poly) (i k:Nat),i<p.length->conv (p.set i c) q k=conv p q k+if i<=k then (c-co p i)*co q (k-i) else 0
 | [],i,k,h=>absurd h sM
 | a :: p,0,0,h=>by simp only [List.set_cons_zero];rw [zEc,zEc,cD (cX _),zAf];grind
 | a :: p,0,k+1,h=>by simp only [List.set_cons_zero];rw [zDe,zDe,cD (di _),zAf,Nat.sub_zero];grind
 | a :: p,i+1,0,h=>by simp only [io];rw [zEc,zEc,ct oM];grind
 | a :: p,i+1,k+1,h=>by
  simp only [io];rw [zDe,zDe,zQa q c p i k (by simpa using h),zAF,Nat.add_sub_add_right];by_cases e:i<=k
  . rw [cD e,cD oM];grind
  . rw [ct e,ct oM];grind
theorem zLc (g:Rat):∀ (p:Poly) (k:Nat),conv p [g] k=co p k*g
 | [],k=>by rw [zDt,zAa,dO]
 | a :: p,0=>rfl
 | a :: p,k+1=>by rw [zDe,zLc g p k,zAF,zAF,zAa,ed,gs]
theorem zFY {h r:Poly} {c:Rat} (F:Trimd q) (A:q≠[]) (I:q.length<=h.length) (B:rdiv (top h) (top q)=some c) (G:zHJ c q (h.length-q.length) h=some r) :
 (∀ k,co (trim r) k=co h k-if h.length-q.length<=k then c*co q (k-(h.length-q.length)) else 0)/\(trim r).length<h.length/\Trimd (trim r)/\c=top h/top q:=by
 have B:=zFD B;have:=zz A;obtain ⟨M,H⟩:=zPJ G oM;have C:∀ k,co (trim r) k=co h k-if h.length-q.length<=k then c*co q (k-(h.length-q.length)) else 0:=fun k=>by rw [zAU,H]
 refine ⟨C,?_,ze _,B⟩;have:(trim r).length<=h.length-1:=zAr (ze r) fun i hi=>by
  rw [C i];by_cases e:i=h.length-1
  . subst e;rw [cD oM,show h.length-1-(h.length-q.length)=q.length-1 by omega,B,<- zBM,<- zBM];have:=zEM F A;grind
  . rw [co_ge (l:=h) (k:=i) oM,co_ge (l:=q) oM];simp [ed,Rat.sub_self]
 omega
theorem zQg {q:Poly} (B:Trimd q) (A:q≠[]):∀ {f:Nat} {e quo Q r:Poly},divL q f e quo=some (Q,r)->Trimd e->r.length<q.length/\Trimd r/\Trimd Q
 | 0,_,_,_,_,h,_=>by cases h
 | f+1,e,quo,Q,r,h,C=>by
  unfold divL at h;split at h
  . next F=>cases h;exact ⟨F,C,ze _⟩
  . obtain ⟨c,G,h⟩:=cbind h;obtain ⟨s,H,h⟩:=cbind h;exact zQg B A h (ze _)
theorem zPf {q:Poly} (C:Trimd q) (B:q≠[]):∀ {f:Nat} {A quo Q r:Poly},divL q f A quo=some (Q,r)->Trimd A->(∀ j,j+q.length<=A.length->co quo j=0)->(A.length<quo.length+q.length) ->
 (∀ k,conv Q q k+co r k=conv quo q k+co A k)/\(∀ j,A.length<j+q.length->co Q j=co quo j)
 | 0,_,_,_,_,h,_,_,_=>by cases h
 | f+1,A,quo,Q,r,h,Z,F,G=>by
  unfold divL at h;split at h
  . next H=>cases h;exact ⟨fun k=>by rw [zQZ q k _ quo (zAU quo)],fun j _=>zAU quo j⟩
  . next H =>
    obtain ⟨c,I,h⟩:=cbind h;obtain ⟨s,M,h⟩:=cbind h;obtain ⟨O,h2,U,h4⟩:=zFY C B oM I M;have hn:A.length-q.length<quo.length:=by have:=zz B;omega
    obtain ⟨V,X⟩:=zPf C B h U (fun j Y=>by rw [zDN hn,ct oM];exact F j oM) (by simp;omega);refine ⟨fun k => ?_,fun j Y => ?_⟩
    . rw [V k,zQa q c quo _ k hn,O k,F (A.length-q.length) oM];by_cases e:A.length-q.length<=k
      . rw [cD e,cD e];grind
      . rw [ct e,ct e];grind
    . rw [X j oM,zDN hn,ct oM]
theorem zBj {R:Poly×Poly} (h:pdiv p q=some R):trim q≠[]/\R.2.length<(trim q).length/\Trimd R.2/\Trimd R.1:=by
 unfold pdiv at h;split at h
 . cases h
 . next e=>exact ⟨e,zQg (ze q) e h (ze p)⟩
theorem zKu {R:Poly×Poly} (h:pdiv p q=some R):∀ k,conv R.1 (trim q) k+co R.2 k=co p k:=by
 unfold pdiv at h;split at h
 . cases h
 . next e =>
   have:=zz e;by_cases hl:(trim p).length<(trim q).length
   . unfold divL at h;rw [cD hl] at h;cases h;intro k;rw [zGJ _ _ _ fun k=>by rw [zAU,zBG],zAU,gs]
   . obtain ⟨A,_⟩:=zPf (ze q) e h (ze p) (fun j _=>zBG _ j) (by simp;omega);intro k;rw [A k,zGJ _ _ _ fun k=>zBG _ k,zAU,gs]
theorem zKv {R:Poly×Poly} (h:pdiv p q=some R) (e:(trim p).length<(trim q).length):R=([],trim p):=by
 unfold pdiv at h;split at h
 . cases h
 . unfold divL at h;rw [cD e] at h;cases h;rw [show (trim p).length+1-(trim q).length=0 by omega];rfl
theorem pdiv_quo {R:Poly×Poly} (h:pdiv p q=some R) (M:(trim q).length<=(trim p).length):R.1.length=(trim p).length-(trim q).length+1:=by
 have C:=(zBj h).2.2.2;unfold pdiv at h;split at h
 . cases h
 . next A =>
   have O:=zz A;unfold divL at h;rw [ct oM] at h;obtain ⟨c,F,h⟩:=cbind h;obtain ⟨s,G,h⟩:=cbind h;obtain ⟨U,V,H,I⟩:=zFY (ze q) A oM F G;have hn:(trim p).length-(trim q).length<(List.replicate ((trim p).length+1-(trim q).length) (0:Rat)).length:=by simp;omega
   obtain ⟨_,B⟩:=zPf (ze q) A h H (fun j hj=>by rw [zDN hn,ct oM];exact zBG _ j) (by rw [ff,fF];omega);have hp0:trim p≠[]:=fun e=>by
    have X:(trim p).length=0:=by rw [e];rfl
    omega
   refine zCR C ?_ fun i Y => ?_
   . rw [B _ oM,zDN hn,cD rfl,I];have:=zEM (ze p) hp0;have:=zEM (ze q) A;grind
   . rw [B _ oM,zDN hn,ct oM,zBG]
theorem zCh {r:Poly} (h:zCO p q=some r) (A:Trimd p) (e:Trimd q):Trimd r/\r.length=p.length+1-q.length:=by
 obtain ⟨R,B,rfl⟩:=cmap h;have C:=zBj B;rw [zo e] at C;refine ⟨C.2.2.2,?_⟩;by_cases hl:p.length<q.length
 . rw [zKv B (by rw [zo A,zo e];exact hl)];simp;omega
 . rw [pdiv_quo B (by rw [zo A,zo e];omega),zo A,zo e];omega
theorem zJS {r:Poly} (h:zCO p q=some r) (e:Trimd q) (B:q.length=1):∀ k,co r k=co p k/co q 0:=by
 obtain ⟨R,A,rfl⟩:=cmap h;have h2:=zBj A;have h3:=zKu A;rw [zo e] at h2 h3;obtain ⟨g,rfl⟩:=gk.1 B;have hg:g≠0:=e 0 rfl;intro k;have:=h3 k;rw [zLc,zAd (p:=R.2) (by simpa using h2.2.1),zAa] at this;rw [zAf];grind
theorem zNK {R:Poly×Poly} (h:pdiv p q=some R) (I:Trimd p) (G:Trimd q) (C:q.length=n+1) (H:p.length=n+2)
 (M:co p n=(co p (n+1)/co q n)*if 1<=n then co q (n-1) else 0):∀ k,co R.2 k=co p k-(co p (n+1)/co q n)*if 1<=k then co q (k-1) else 0:=by
 have B:q≠[]:=fun e=>by subst e;cases C
 unfold pdiv at h;rw [zo G,zo I,ct B] at h;unfold divL at h;rw [ct oM] at h;obtain ⟨c,O,h⟩:=cbind h;obtain ⟨s,U,h⟩:=cbind h;obtain ⟨A,Y,V,F⟩:=zFY G B oM O U;rw [zBM,zBM,H,C] at F;rw [H,C] at A;have F:c=co p (n+1)/co q n:=F;have A:∀ k,co (trim s) k=co p k-(co p (n+1)/co q n)*if 1<=k then co q (k-1) else 0:=fun k=>by
  have:=A k;rw [show n+2-(n+1)=1 by omega,F] at this;rw [this];by_cases e:1<=k
  . rw [cD e,cD e]
  . rw [ct e,ct e,ed]
 have Z:(trim s).length<=n:=zAr V fun i hi=>by
  by_cases e:i=n
  . subst e;rw [A,M];grind
  . rcases dR (n+1) i with X | X
    . rw [A,co_ge (l:=p) (k:=i) oM,cD oM,co_ge (l:=q) (k:=i-1) oM];grind
    . obtain rfl:i=n+1:=by omega
      have:=G n C;rw [A,cD oM,dD];grind
 rw [H] at h;unfold divL at h;rw [cD oM] at h;cases h;exact A
theorem rabs_pos (h:x≠0):0<rabs x:=by
 unfold rabs;by_cases e:x<0
 . rw [cD e];grind
 . rw [ct e];grind
theorem zAj (h:zCU p=some s):Trimd s/\s.length=(trim p).length/\∃ t:Rat,0<t/\∀ k,co s k=co p k*t:=by
 unfold zCU at h;split at h
 . next e=>cases h;exact ⟨zEE,by rw [e],1,dE,fun k=>by rw [<- zAU p,e,zAa];grind⟩
 . next e =>
   obtain ⟨c,A,h⟩:=cbind h;obtain ⟨F,B⟩:=zBD h;have A:=zFD A;have hr:=rabs_pos (zEM (ze p) e);have C:0<c:=by rw [A,iD,gZ];exact Rat.inv_pos.2 hr
   have H:∀ k,co s k=co p k*c:=fun k=>by rw [B k,zAU]
   refine ⟨F,?_,c,C,H⟩;obtain ⟨n,G⟩:∃ n,(trim p).length=n+1:=⟨(trim p).length-1,by have:=zz e;omega⟩;rw [G];refine zCR F ?_ fun i hi => ?_
   . rw [B];have:=ze p n G;grind
   . rw [B,co_ge oM];grind
theorem zBN (h:monic p=some s):Trimd s/\s.length=(trim p).length/\∃ t:Rat,t≠0/\∀ k,co s k=co p k*t:=by
 unfold monic at h;split at h
 . next e=>cases h;exact ⟨zEE,by rw [e],1,dE,fun k=>by rw [<- zAU p,e,zAa];grind⟩
 . next e =>
   obtain ⟨c,A,h⟩:=cbind h;obtain ⟨F,B⟩:=zBD h;have A:=zFD A;have hr:=zEM (ze p) e;have C:c≠0:=by rw [A];grind
   have H:∀ k,co s k=co p k*c:=fun k=>by rw [B k,zAU]
   refine ⟨F,?_,c,C,H⟩;obtain ⟨n,G⟩:∃ n,(trim p).length=n+1:=⟨(trim p).length-1,by have:=zz e;omega⟩;rw [G];refine zCR F ?_ fun i hi => ?_
   . rw [B];have:=ze p n G;grind
   . rw [B,co_ge oM];grind
theorem zEY (h:zDg p x=some s) (F:Trimd p) (G:x≠0):s.length=p.length:=by
 obtain ⟨B,A⟩:=zBD h;by_cases e:p=[]
 . subst e;rw [zJa B fun i=>by rw [A,zAa];grind]
 . obtain ⟨n,C⟩:∃ n,p.length=n+1:=⟨p.length-1,by have:=zz e;omega⟩;rw [C];refine zCR B ?_ fun i hi => ?_
   . rw [A];have:=F n C;grind
   . rw [A,co_ge oM];grind
theorem zKI:∀ {f:Nat} {p q g:Poly},zBT f p q=some g->Trimd p->Trimd q->Trimd g/\(p≠[]\/q≠[]->g≠[])/\(q≠[]->g.length<=q.length)/\(q=[]->g=p)
 | 0,_,_,_,h,_,_=>by cases h
 | f+1,p,q,g,h,C,B=>by
  unfold zBT at h;split at h
  . next e=>cases h;exact ⟨C,fun A=>A.elim id fun h=>absurd e h,fun h=>absurd e h,fun _=>rfl⟩
  . next e =>
    obtain ⟨R,F,h⟩:=cbind h;obtain ⟨m,G,h⟩:=cbind h;obtain ⟨H,I,_⟩:=zBN G;have hr:=zBj F;rw [zo B] at hr;rw [zo hr.2.2.1] at I;obtain ⟨M,O,U,V⟩:=zKI h B H;refine ⟨M,fun _=>O (.inl e),fun _ => ?_,fun A=>absurd A e⟩;by_cases hm0:m=[]
    . rw [V hm0];exact cX _
    . have:=U hm0;omega
theorem zDD {g:Poly} (h:zBt p q=some g) (C:Trimd p) (F:Trimd q):Trimd g/\(p≠[]\/q≠[]->g≠[])/\(q≠[]->g.length<=q.length)/\(q=[]->g.length=p.length):=by
 obtain ⟨a,G,h⟩:=cbind h;obtain ⟨b,H,h⟩:=cbind h;obtain ⟨a1,a2,_⟩:=zBN G;obtain ⟨I,B,_⟩:=zBN H;rw [zo C] at a2;rw [zo F] at B;have e:∀ {x y:Poly},x.length=y.length->x≠[]->y≠[]:=fun hl h0 he=>h0 (zAd (by rw [hl,he];rfl));obtain ⟨M,O,U,V⟩:=zKI h a1 I;refine ⟨M,fun X=>O (X.imp (e a2.symm) (e B.symm)),fun A => ?_,fun A => ?_⟩
 . have:=U (e B.symm A);omega
 . rw [V (zAd (by rw [B,A];rfl)),a2]
theorem zBl (h:0<x):rsign x=1:=by
 have e:=(Rat.lt_iff 0 x).1 h;exact eI (by simpa using e)
theorem zBk (h:x<0):rsign x = -1:=by
 have e:=(Rat.lt_iff x 0).1 h;exact eu (by simpa using e)
theorem zCF (h:x≠0):(0<x/\rsign x=1)\/(x<0/\rsign x = -1):=by
 by_cases e:0<x
 . exact .inl ⟨e,zBl e⟩
 . have A:x<0:=by grind
   exact .inr ⟨A,zBk A⟩
theorem zGM:∀ (l:List Int) (h n:Int),flipL l h n=n+flipL l h 0
 | [],h,n=>by simp [flipL]
 | s :: l,h,n=>by
  unfold flipL;by_cases e:s=0
  . rw [cD e,cD e];exact zGM l h n
  . rw [ct e,ct e];by_cases A:(h=1/\s = -1)\/(h = -1/\s=1)
    . rw [cD A,cD A,zGM l s (n+1),zGM l s (0+1)];omega
    . rw [ct A,ct A];exact zGM l s n
def flip2 (a b:Int):Int:=if (a=1/\b = -1)\/(a = -1/\b=1) then 1 else 0
theorem zFC (s:Int):flip2 0 s=0:=ct oM
theorem zCe {s:Int} (h:s≠0) (l:List Int) (e n:Int):flipL (s :: l) e n=n+flip2 e s+flipL l s 0:=by
 rw [flipL,ct h,zGM];unfold flip2;split<;>omega
theorem zLn (m:Bool) (p:Poly):zAv m [p]=0:=by
 show flipL [endS m p] 0 0=0;by_cases e:endS m p=0
 . rw [flipL,cD e];rfl
 . rw [zCe e,zFC];rfl
theorem zKV (m:Bool) (l:List Poly) (h:endS m p≠0) (e:endS m q≠0):zAv m (p :: q :: l)=flip2 (endS m p) (endS m q)+zAv m (q :: l):=by
 show flipL (endS m p :: endS m q :: l.map (endS m)) 0 0=_+flipL (endS m q :: l.map (endS m)) 0 0;rw [zCe h,zFC,zCe e,zCe e,zFC];omega
def dif (c:List Poly):Int:=zAv true c-zAv false c
theorem zPe (p:Poly):dif [p]=0:=by unfold dif;rw [zLn,zLn];rfl
theorem zJg (l:List Poly) (H:Trimd p) (I:Trimd q) (C:p≠[]) (F:q≠[]) :
 dif (p :: q :: l)=(if p.length%2=q.length%2 then 0 else if rsign (top p)=rsign (top q) then 1 else -1)+dif (q :: l):=by
 have e:∀ m {x:Poly},rsign (top x)=1\/rsign (top x) = -1->endS m x≠0:=fun m x h=>by unfold endS;split<;>omega
 have A:rsign (top p)=1\/rsign (top p) = -1:=(zCF (zEM H C)).imp (·.2) (·.2)
 have B:rsign (top q)=1\/rsign (top q) = -1:=(zCF (zEM I F)).imp (·.2) (·.2)
 unfold dif;rw [zKV true l (e _ A) (e _ B),zKV false l (e _ A) (e _ B)];have G:flip2 (endS true p) (endS true q)-flip2 (endS false p) (endS false q)=if p.length%2=q.length%2 then 0 else if rsign (top p)=rsign (top q) then 1 else -1:=by
  unfold endS;rcases A with A | A<;>rcases B with B | B<;>rw [A,B]<;>rcases fy p.length with lp | lp<;>rcases fy q.length with lq | lq<;>rw [lp,lq]<;>decide
 rw [<- G];omega
theorem zES:∀ {f:Nat} {P Q:Poly} {L:List Poly},zBe f P Q=some L->Trimd P->Trimd Q->Q.length<P.length->(∃ B,L=P :: B) /\ -(Q.length:Int)<=dif L/\dif L<=Q.length
 | 0,_,_,_,h,_,_,_=>by cases h
 | f+1,P,Q,L,h,O,C,I=>by
  have A:P≠[]:=fun e=>by rw [e] at I;simp at I
  unfold zBe at h;rw [ct A] at h;split at h
  . next e=>cases h;subst e;exact ⟨⟨[],rfl⟩,by rw [zPe];simp,by rw [zPe];simp⟩
  . next F =>
    obtain ⟨R,U,h⟩:=cbind h;obtain ⟨s,M,h⟩:=cbind h;obtain ⟨Y,G,h⟩:=cbind h;obtain ⟨l,H,h⟩:=cbind h;cases h;have hr:=zBj U;rw [zo C] at hr;have h1:=zEY M hr.2.2.1 dE;obtain ⟨V,X,_⟩:=zAj G;rw [zo (zBD M).1] at X;obtain ⟨⟨B,rfl⟩,b1,b2⟩:=zES H C V oM;refine ⟨⟨_,rfl⟩,?_⟩;rw [zJg B O C A F];split
    . omega
    . split<;>omega
theorem chainL_dif' {f:Nat} {P:Poly} (h:zBe f P Q=some L) (G:Trimd P) (B:Trimd Q) (Y:Q.length<=P.length):P=[]/\dif L=0\/P≠[] /\ -((P.length:Int)-1)<=dif L/\dif L<=(P.length:Int)-1:=by
 by_cases A:P=[]
 . refine .inl ⟨A,?_⟩;cases f with
   | zero=>cases h
   | succ f=>unfold zBe at h;rw [cD A] at h;cases h;rfl
 . refine .inr ⟨A,?_⟩;by_cases he:Q.length<P.length
   . obtain ⟨_,I,M⟩:=zES h G B he;omega
   . cases f with
     | zero=>cases h
     | succ f =>
      have:=zz A;have hQ0:Q≠[]:=fun e=>by rw [e] at he;exact he this
      unfold zBe at h;rw [ct A,ct hQ0] at h;obtain ⟨R,O,h⟩:=cbind h;obtain ⟨s,H,h⟩:=cbind h;obtain ⟨Z,C,h⟩:=cbind h;obtain ⟨l,F,h⟩:=cbind h;cases h;have hr:=zBj O;rw [zo B] at hr;have h1:=zEY H hr.2.2.1 dE;obtain ⟨U,V,_⟩:=zAj C;rw [zo (zBD H).1] at V;obtain ⟨⟨X,rfl⟩,I,M⟩:=zES F B U oM;rw [zJg X G B A hQ0,cD oM];omega
variable {j:Nat}
section
def alt (j:Nat):Rat:=if j%4<2 then 1 else -1
theorem alt_0:alt 0=1:=rfl
theorem alt_2 (j:Nat):alt (j+2) = - alt j:=by
 unfold alt;by_cases h:j%4<2
 . rw [cD h,ct oM]
 . rw [ct h,cD oM];decide
theorem zNs (j:Nat):alt j≠0:=by
 unfold alt;split<;>decide
theorem zTb (j:Nat):alt j*alt j=1:=by
 unfold alt;split<;>grind
theorem neg_of {q:Rat} (h:¬ 0<q) (e:q≠0):q<0:=gR
theorem zRy (h:j%2=0):alt (j+1)=alt j:=by
 unfold alt;by_cases h:j%4<2
 . rw [cD h,cD oM]
 . rw [ct h,ct oM]
theorem zMj (h:j%2=1):alt (j+1) = - alt j:=by
 unfold alt;by_cases h:j%4<2
 . rw [cD h,ct oM]
 . rw [ct h,cD oM];decide
structure HP (n:Nat) (c d:Rat) (a b P Q:Poly):Prop where
 pa:∀ k,co a k≠0->k<=n/\(n-k)%2=0
 ta:co a n≠0
 da:Trimd a
 db:Trimd b
 pb:∀ k,co b k≠0->k+1<=n/\(n-1-k)%2=0
 dP:Trimd P
 dQ:Trimd Q
 hc:c≠0
 hd:d≠0
 hP:∀ k,co P k=c*alt (n-k)*co a k
 hQ:∀ k,co Q k=d*alt (n-1-k)*co b k
variable {c d:Rat} {a b P:Poly}
theorem HP.la (h:HP n c d a b P Q):a.length=n+1:=zCR h.da h.ta fun i A=>by
 by_cases e:co a i=0
 . exact e
 . have:=h.pa i e;omega
theorem HP.lP (h:HP n c d a b P Q):P.length=n+1:=by
 refine zCR h.dP ?_ fun i e => ?_
 . rw [h.hP,fM,alt_0];have:=h.ta;have:=h.hc;grind
 . rw [h.hP,co_ge (l:=a) (by rw [h.la];omega),ed]
theorem HP.lQ (h:HP n c d a b P Q):Q.length=b.length:=by
 have e:∀ k,co Q k=0↔co b k=0:=fun k=>by
  rw [h.hQ];have:=h.hd;have:=zNs (n-1-k);grind
 have A:Q.length<=b.length:=zAr h.dQ fun i hi=>(e i).2 (co_ge hi);have h2:b.length<=Q.length:=zAr h.db fun i hi=>(e i).1 (co_ge hi);omega
theorem HP.lb (h:HP n c d a b P Q):b.length<=n:=zAr h.db fun i A=>by
 by_cases e:co b i=0
 . exact e
 . have:=h.pb i e;omega
theorem HP.lb2 (h:HP n c d a b P Q) (e:b≠[]):(n-b.length)%2=0:=by
 have:=h.pb _ (zBn h.db e);have:=zz e;omega
theorem HP.scale (h:HP n c d a b P Q) {e A:Poly} {s t:Rat} (B:Trimd e) (C:Trimd A) (H:s≠0) (I:t≠0) (F:∀ k,co e k=co P k*s) (G:∀ k,co A k=co Q k*t):HP n (c*s) (d*t) a b e A :=
 ⟨h.pa,h.ta,h.da,h.db,h.pb,B,C,by have:=h.hc;grind,by have:=h.hd;grind,fun k=>by rw [F,h.hP];grind,fun k=>by rw [G,h.hQ];grind⟩
theorem HP.step (h:HP (n+1) c d a b P Q) (V:co b n≠0) {r S:Poly} {t:Rat} (X:Trimd r) (C:∀ k,co r k=co a k-if k=0 then 0 else co b (k-1)*(co a (n+1)/co b n))
 (Y:Trimd S) (ht:t≠0) (F:∀ k,co S k=(co P k-(co P (n+1)/co Q n)*if 1<=k then co Q (k-1) else 0)*t):HP n d (-(c*t)) b r Q S:=by
 have hc:=h.hc;have Z:=h.hd;have G:∀ k,co r k≠0->k+1<=n/\(n-1-k)%2=0:=fun k A=>by
  rw [C] at A;have h1:k<=n+1/\(n+1-k)%2=0:=by
   by_cases I:co a k=0
   . by_cases B:k=0
     . rw [cD B,I] at A;exact absurd gR A
     . rw [ct B,I] at A;have:co b (k-1)≠0:=fun e=>A (by rw [e];grind);have:=h.pb _ this;omega
   . exact h.pa k I
  by_cases e:k=n+1
  . subst e;rw [ct oM,dD] at A;exact absurd gR A
  . omega
 refine ⟨fun k A => ?_,V,h.db,X,G,h.dQ,Y,Z,gR,fun k=>h.hQ k,fun k => ?_⟩
 . have:=h.pb k A;omega
 . have M:co P (n+1)/co Q n=(c/d)*(co a (n+1)/co b n):=by
    rw [h.hP,h.hQ,fM,dD,fM,alt_0];grind
   by_cases e:k+1<=n
   . have O:alt (n+1-k) = - alt (n-1-k):=by rw [<- alt_2];congr 1;omega
     rw [F,M,h.hP,O,C];by_cases B:k=0
     . rw [ct oM,cD B];grind
     . rw [cD oM,ct B,h.hQ,show n+1-1-(k-1)=n+1-k by omega,O];grind
   . have H:co r k=0:=by
      by_cases U:co r k=0
      . exact U
      . have:=G k U;omega
     rw [H,ed,F,M];rw [C] at H;rw [h.hP];by_cases B:k=0
     . rw [ct oM];rw [cD B] at H;grind
     . rw [cD oM];rw [ct B] at H;rw [h.hQ,show n+1-1-(k-1)=n+1-k by omega];grind
theorem HP.gap (h:HP (n+1) c d a b P Q):co P n=(co P (n+1)/co Q n)*if 1<=n then co Q (n-1) else 0:=by
 have A:co P n=0:=by
  rw [h.hP];by_cases e:co a n=0
  . rw [e,ed]
  . have:=h.pa n e;omega
 have B:(if 1<=n then co Q (n-1) else 0)=0:=by
  by_cases e:1<=n
  . rw [cD e,h.hQ];by_cases e:co b (n-1)=0
    . rw [e,ed]
    . have:=h.pb _ e;omega
  . rw [ct e]
 rw [A,B,ed]
def sg (x:Rat):Int:=if 0<x then 1 else -1
theorem sg_mul (B:x≠0) (C:y≠0):sg (x*y)=sg x*sg y:=by
 unfold sg;by_cases e:0<x<;>by_cases h2:0<y
 . rw [cD (fh e h2),cD e,cD h2];rfl
 . have:y<0:=by grind
   have:x*y<0:=(Rat.mul_neg_iff_of_pos_left e).2 this;rw [ct gR,cD e,ct h2];rfl
 . have:x<0:=by grind
   have:x*y<0:=(Rat.mul_neg_iff_of_pos_right h2).2 this;rw [ct gR,ct e,cD h2];rfl
 . have h:0 < -x:=by grind
   have A:0 < -y:=gR
   have:=fh h A;rw [cD gR,ct e,ct h2];rfl
theorem sg_pos (h:0<x):sg x=1:=cD h
theorem zPF (h:x<0):sg x = -1:=ct gR
theorem zGz (x:Rat):sg x=1\/sg x = -1:=by unfold sg;split<;>simp
theorem zRR (A:x≠0) (B:y≠0):(if rsign x=rsign y then (1:Int) else -1)=sg (x*y):=by
 rw [sg_mul A B];rcases zCF A with ⟨e,C⟩ | ⟨e,C⟩<;>rcases zCF B with ⟨h,F⟩ | ⟨h,F⟩<;>rw [C,F]
 . rw [sg_pos e,sg_pos h];rfl
 . rw [sg_pos e,zPF h];rfl
 . rw [zPF e,sg_pos h];rfl
 . rw [zPF e,zPF h];rfl
def zGD (F:Option Poly):Prop:=∃ l,F=some l/\∀ q,q∈l->0<q
theorem zLZ {q:Rat} {F:Option Poly}:zGD (F.map (q :: ·))↔0<q/\zGD F:=by
 cases F with
 | none=>exact ⟨fun ⟨l,h,_⟩=>(by cases h),fun ⟨_,l,h,_⟩=>(by cases h)⟩
 | some l =>
  constructor
  . rintro ⟨C,h,A⟩;cases h;exact ⟨A q sM,l,rfl,fun x B=>A x (by simp [B])⟩
  . rintro ⟨G,C,h,A⟩;cases h;exact ⟨_,rfl,fun x B=>by
     rcases eY.1 B with e | e
     . exact e ▸ G
     . exact A x e⟩
theorem zKa:∀ (n:Nat) {a b I Q':Poly} {M O:Rat} {U:Nat} {F:Option Poly} {G:Poly},HP n M O a b I Q'->fracL n a b=some F->zBT U I Q'=some G->zGD F->G.length=1
 | n,a,b,I,Q',M,O,0,F,G,_,_,B,_=>by cases B
 | 0,a,b,I,Q',M,O,U+1,F,G,A,C,B,V=>by
  have hb:b=[]:=zAd (by have:=A.lb;omega);have hQ':Q'=[]:=zAd (by rw [A.lQ,hb];rfl);unfold zBT at B;rw [cD hQ'] at B;cases B;exact A.lP
 | n+1,a,b,I,Q',M,O,U+1,F,G,A,C,B,V=>by
  unfold fracL at C;split at C
  . cases C;obtain ⟨l,e,_⟩:=V;cases e
  . next h =>
    have h:b.length=n+1:=by rw [A.la] at h;omega
    have an:b≠[]:=fun e=>by rw [e] at h;cases h
    have X:Q'≠[]:=fun e=>by have:=A.lQ;rw [e,h] at this;cases this
    have Y:co b n≠0:=A.db n h;obtain ⟨q,H,C⟩:=cbind C;obtain ⟨m,hm,C⟩:=cbind C;obtain ⟨r,hr,C⟩:=cbind C;obtain ⟨F',Z,rfl⟩:=cmap C;have H:=zFD H;rw [zBM,zBM,A.la,h] at H;have H:q=co a (n+1)/co b n:=H;obtain ⟨r1,r2⟩:=zEH hr;have hrk:∀ k,co r k=co a k-if k=0 then 0 else co b (k-1)*(co a (n+1)/co b n):=fun k=>by rw [r2,(zDA hm).2,zFM,H]
    unfold zBT at B;rw [ct X] at B;obtain ⟨R',aa,B⟩:=cbind B;obtain ⟨m',ab,B⟩:=cbind B;have hRk':=zNK aa A.dP A.dQ (n:=n) (by rw [A.lQ,h]) A.lP A.gap;obtain ⟨M1,M2,u,hu,M3⟩:=zBN ab;exact zKa n (A.step Y r1 hrk M1 hu fun k=>by rw [M3,hRk']) Z B (zLZ.1 V).2
theorem zGP:∀ (n:Nat) {a b P Q Z O:Poly} {c d c' d':Rat} {f f':Nat} {L:List Poly} {F:Option Poly} {G:Poly},HP n c d a b P Q->HP n c' d' a b Z O->zBe f P Q=some L->fracL n a b=some F->zBT f' Z O=some G ->
 (zGD F/\dif L=sg (c*d)*n/\G.length=1)\/(¬ zGD F/\(sg (c*d)*dif L<=(n:Int)-2\/1<G.length))
 | n,a,b,P,Q,Z,O,c,d,c',d',0,f',L,F,G,_,_,A,_,_=>by cases A
 | n,a,b,P,Q,Z,O,c,d,c',d',f+1,0,L,F,G,_,_,_,_,B=>by cases B
 | 0,a,b,P,Q,Z,O,c,d,c',d',f+1,f'+1,L,F,G,h,h',A,C,B=>by
  have U:b=[]:=zAd (by have:=h.lb;omega);have hQ:Q=[]:=zAd (by rw [h.lQ,U];rfl);have hQ':O=[]:=zAd (by rw [h'.lQ,U];rfl);have hP:P≠[]:=fun e=>by have:=h.lP;rw [e] at this;cases this
  unfold zBe at A;rw [ct hP,cD hQ] at A;cases A;unfold zBT at B;rw [cD hQ'] at B;cases B;cases C;exact .inl ⟨⟨[],rfl,fun q H=>by cases H⟩,by rw [zPe];simp,h'.lP⟩
 | n+1,a,b,P,Q,Z,O,c,d,c',d',f+1,f'+1,L,F,G,h,h',A,C,B=>by
  have hP:P≠[]:=fun e=>by have:=h.lP;rw [e] at this;cases this
  have Y:Q=[]↔b=[]:=⟨fun e=>zAd (by rw [<- h.lQ,e];rfl),fun e=>zAd (by rw [h.lQ,e];rfl)⟩;have hQb':O=[]↔b=[]:=⟨fun e=>zAd (by rw [<- h'.lQ,e];rfl),fun e=>zAd (by rw [h'.lQ,e];rfl)⟩;by_cases hreg:b.length=n+1
  . -- a regular step
    have I:b≠[]:=fun e=>by rw [e] at hreg;cases hreg
    have ah:co b n≠0:=h.db n hreg;unfold fracL at C;rw [ct (by rw [h.la,hreg];omega)] at C;obtain ⟨q,H,C⟩:=cbind C;obtain ⟨m,hm,C⟩:=cbind C;obtain ⟨r,hr,C⟩:=cbind C;obtain ⟨F',ar,rfl⟩:=cmap C;have H:=zFD H;rw [zBM,zBM,h.la,hreg] at H;have H:q=co a (n+1)/co b n:=H;obtain ⟨r1,r2⟩:=zEH hr;have hrk:∀ k,co r k=co a k-if k=0 then 0 else co b (k-1)*(co a (n+1)/co b n):=fun k=>by rw [r2,(zDA hm).2,zFM,H]
    -- the chain
    unfold zBe at A;rw [ct hP,ct (fun e=>I (Y.1 e))] at A;obtain ⟨R,hR,A⟩:=cbind A;obtain ⟨s,hs,A⟩:=cbind A;obtain ⟨S,hS,A⟩:=cbind A;obtain ⟨l,hl,A⟩:=cbind A;cases A;have hRk:=zNK hR h.dP h.dQ (n:=n) (by rw [h.lQ,hreg]) h.lP h.gap;obtain ⟨S1,S2,t,ht,S3⟩:=zAj hS;have hstep:=h.step ah r1 hrk S1 (t := -t) gR fun k=>by rw [S3,(zBD hs).2,hRk];grind
    -- the zBt divisor
    unfold zBT at B;rw [ct (fun e=>I (hQb'.1 e))] at B;obtain ⟨R',au,B⟩:=cbind B;obtain ⟨m',av,B⟩:=cbind B;have hRk':=zNK au h'.dP h'.dQ (n:=n) (by rw [h'.lQ,hreg]) h'.lP h'.gap;obtain ⟨M1,M2,u,hu,M3⟩:=zBN av;have hstep':=h'.step ah r1 hrk M1 hu fun k=>by rw [M3,hRk']
    have ih:=zGP n hstep hstep' hl ar B;have hle:=(zBj hR).2.1;obtain ⟨⟨L',rfl⟩,-,-⟩:=zES hl h.dQ S1 (by
     rw [zo h.dQ] at hle;have e1:=zEY hs (zBj hR).2.2.1 dE;rw [zo (zBD hs).1] at S2;omega)
    have hc:=h.hc;have hd:=h.hd;have ha:=h.ta;have ai:c*d≠0:=gR
    have aj:q≠0:=by rw [H];grind
    have e1:sg (d * -(c * -t))=sg (c*d):=by
     rw [show d * -(c * -t)=(c*d)*t by grind,sg_mul ai gR,sg_pos ht];omega
    have e2:dif (P :: Q :: L')=sg (c*d)*sg q+dif (Q :: L'):=by
     rw [zJg L' h.dP h.dQ hP (fun e=>I (Y.1 e)),ct (by rw [h.lP,h.lQ,hreg];omega),zRR (zEM h.dP hP) (zEM h.dQ fun e=>I (Y.1 e))];congr 1;rw [zBM,zBM,h.lP,h.lQ,hreg];show sg (co P (n+1)*co Q n)=_;rw [h.hP,h.hQ,fM,dD,fM,alt_0];rw [show c*1*co a (n+1)*(d*1*co b n)=(c*d)*(q*(co b n*co b n)) by rw [H];grind];have hbb:0<co b n*co b n:=by
      rcases Rat.le_iff_lt_or_eq.1 (show 0<=co b n*co b n by
       by_cases e:0<=co b n
       . exact dX e e
       . have:=dX (gR:0 <= -co b n) (gR:0 <= -co b n);grind) with e | e
      . exact e
      . exact absurd e.symm gR
     rw [sg_mul ai gR,sg_mul aj gR,sg_pos hbb,Int.mul_one]
    rw [e1] at ih;rw [e2,zLZ];by_cases M:0<q
    . rw [sg_pos M];rcases ih with ⟨i1,V,i3⟩ | ⟨i1,V⟩
      . exact .inl ⟨⟨M,i1⟩,by rw [V];rcases zGz (c*d) with e | e<;>rw [e]<;>push_cast<;>omega,i3⟩
      . refine .inr ⟨fun X=>i1 X.2,V.imp (fun X => ?_) id⟩;rcases zGz (c*d) with e | e<;>rw [e] at X ⊢ <;> push_cast<;>omega
    . rw [zPF (neg_of M aj)];refine .inr ⟨fun X=>M X.1,?_⟩;rcases ih with ⟨i1,V,i3⟩ | ⟨i1,V⟩
      . left;rw [V];rcases zGz (c*d) with e | e<;>rw [e]<;>push_cast<;>omega
      . refine V.imp (fun X => ?_) id;rcases zGz (c*d) with e | e<;>rw [e] at X ⊢ <;> push_cast<;>omega
  . -- the form is wrong
    have aN:=h.lb;unfold fracL at C;rw [cD (by rw [h.la];omega)] at C;cases C;refine .inr ⟨fun ⟨l,e,_⟩=>(by cases e),?_⟩;obtain ⟨_,b1,b2⟩:=zES A h.dP h.dQ (by rw [h.lQ,h.lP];omega);rw [h.lQ] at b1 b2;by_cases U:b=[]
    . by_cases hn:n=0
      . right;unfold zBT at B;rw [cD (hQb'.2 U)] at B;cases B;rw [h'.lP];omega
      . left;rw [U] at b1 b2;simp at b1 b2;rcases zGz (c*d) with e | e<;>rw [e]<;>push_cast<;>omega
    . left;have:=h.lb2 U;have:=zz U;rcases zGz (c*d) with e | e<;>rw [e]<;>push_cast<;>omega
end
theorem co_append_r:co (p++q) (p.length+k)=co q k:=by
 unfold co;rw [cC,cC,fJ oM];congr 2;omega
theorem zNq:∀ {l s re im:Poly} {R:Poly×Poly},zJF [] [0,1] l re im=some R->Trimd re->Trimd im->(∀ t,co re t=if t%2=0 then alt t*co s t else 0)->(∀ t,co im t=if t%2=1 then alt t*co s t else 0) ->
 Trimd R.1/\Trimd R.2/\(∀ t,co R.1 t=if t%2=0 then alt t*co (l.reverse++s) t else 0)/\∀ t,co R.2 t=if t%2=1 then alt t*co (l.reverse++s) t else 0
 | [],s,re,im,R,h,t1,t2,A,B=>by cases h;exact ⟨t1,t2,A,B⟩
 | c :: l,s,re,im,R,h,t1,t2,A,B=>by
  obtain ⟨a,G,h⟩:=cbind h;obtain ⟨b,H,h⟩:=cbind h;obtain ⟨d,I,h⟩:=cbind h;obtain ⟨Z,C,h⟩:=cbind h;obtain ⟨e,he,h⟩:=cbind h;obtain ⟨g,M,h⟩:=cbind h;obtain ⟨aa,F,h⟩:=cbind h;have hx:∀ (p:Poly) (k:Nat),conv p [] k=0:=fun p=>by
   induction p with
   | nil=>intro k;rfl
   | cons a p O =>
    intro k;cases k with
    | zero=>unfold conv;rw [zAa,ed]
    | succ k=>unfold conv;rw [zAa,ed,O,eD]
  obtain ⟨U,V⟩:=zHd C;obtain ⟨X,Y⟩:=zHd F;have:=zNq (s:=c :: s) h U X (fun t=>by
   rw [V,(zEH I).2,(zDA G).2,(zDA H).2,hx,zFM];cases t with
   | zero=>rw [cD rfl,cD rfl,zAf,zAf,alt_0];grind
   | succ t =>
    rw [ct oM,zAF,zAF,zAa,dD,B];by_cases e:t%2=1
    . rw [cD e,cD oM,zMj e];grind
    . rw [ct e,ct oM];grind) (fun t=>by
   rw [Y,(zDA he).2,(zDA M).2,hx,zFM];cases t with
   | zero=>rw [cD rfl,ct oM];grind
   | succ t =>
    rw [ct oM,zAF,dD,A];by_cases e:t%2=0
    . rw [cD e,cD oM,zRy e];grind
    . rw [ct e,ct oM];grind)
  rw [show (c :: l).reverse++s=l.reverse++(c :: s) by simp];exact this
theorem zQQ {R:Poly×Poly} (h:along p [] [0,1]=some R):Trimd R.1/\Trimd R.2/\(∀ t,co R.1 t=if t%2=0 then alt t*co p t else 0)/\∀ t,co R.2 t=if t%2=1 then alt t*co p t else 0:=by
 have:=zNq (s:=[]) h zEE zEE (fun t=>by rw [zAa,ed];simp) (fun t=>by rw [zAa,ed];simp);rwa [List.reverse_reverse,fu] at this
theorem zNy (f:Nat->Rat->Rat) (p:Poly) (k:Nat):co (p.mapIdx f) k=if k<p.length then f k (co p k) else 0:=by
 by_cases h:k<p.length
 . rw [cD h,zFK (by simpa using h),zFK h,gA]
 . rw [ct h,co_ge (by simp;omega)]
theorem zHw (p:Poly) (k:Nat):co (fracA p) k=if (p.length-1-k)%2=0 then co p k else 0:=by
 unfold fracA;rw [zNy];by_cases h:k<p.length
 . rw [cD h]
 . rw [ct h,co_ge (l:=p) oM];simp
theorem zJk (p:Poly) (k:Nat):co (fracB p) k=if (p.length-1-k)%2=0 then 0 else co p k:=by
 unfold fracB;rw [zAU,zNy];by_cases h:k<p.length
 . rw [cD h]
 . rw [ct h,co_ge (l:=p) oM];simp
theorem zHn (h:k<=n) (e:(n-k)%2=0):alt k=(if n%2=0 then alt n else alt (n-1))*alt (n-k):=by
 by_cases B:n%2=0
 . rw [cD B];unfold alt;by_cases A:k%4<2<;>by_cases h2:n%4<2<;>by_cases h3:(n-k)%4<2<;>first | (exfalso;omega) | (simp only [A,h2,h3,ga,fY];grind)
 . rw [ct B];unfold alt;by_cases A:k%4<2<;>by_cases h2:(n-1)%4<2<;>by_cases h3:(n-k)%4<2<;>first | (exfalso;omega) | (simp only [A,h2,h3,ga,fY];grind)
theorem zMx (hp:Trimd p) (H:p.length=n+1) {re im:Poly} (V:Trimd re) (X:Trimd im) (F:∀ t,co re t=if t%2=0 then alt t*co p t else 0) (G:∀ t,co im t=if t%2=1 then alt t*co p t else 0) :
 ∃ c d,HP n c d (fracA p) (fracB p) (if n%2=0 then re else im) (if n%2=0 then im else re)/\sg (c*d)=if n%2=0 then -1 else 1:=by
 have U:co p n≠0:=hp n H;have ha:∀ k,co (fracA p) k=if (n-k)%2=0 then co p k else 0:=fun k=>by rw [zHw,H,dD]
 have I:∀ k,co (fracB p) k=if (n-k)%2=0 then 0 else co p k:=fun k=>by rw [zJk,H,dD]
 have C:∀ k,n<k->co p k=0:=fun k C=>co_ge oM;have M:co (fracA p) n≠0:=by rw [ha,fM];exact U
 have Y:∀ k,co (fracA p) k≠0->k<=n/\(n-k)%2=0:=fun k h=>by
  rw [ha] at h;by_cases e:(n-k)%2=0
  . rw [cD e] at h;exact ⟨ft fun B=>absurd (C k B) h,e⟩
  . rw [ct e] at h;exact absurd rfl h
 have Z:∀ k,co (fracB p) k≠0->k+1<=n/\(n-1-k)%2=0:=fun k h=>by
  rw [I] at h;by_cases e:(n-k)%2=0
  . rw [cD e] at h;exact absurd rfl h
  . rw [ct e] at h;omega
 have da:Trimd (fracA p):=fun m hm=>by
  have:m=n:=by unfold fracA at hm;simp at hm;omega
  rw [this];exact M
 have db:Trimd (fracB p):=ze _;by_cases e:n%2=0
 . rw [cD e,cD e,cD e];refine ⟨alt n,- alt n,⟨Y,M,da,db,Z,V,X,zNs n,by have:=zNs n;grind,fun k => ?_,fun k => ?_⟩,?_⟩
   . rw [F,ha];by_cases B:k<=n
     . by_cases A:(n-k)%2=0
       . rw [cD A,cD oM,zHn B A,cD e]
       . rw [ct A,ct oM,ed]
     . rw [C k oM];simp [ed]
   . rw [G,I];by_cases B:k<=n
     . by_cases A:(n-k)%2=0
       . rw [cD A,ct oM,ed]
       . rw [ct A,cD oM];have:alt k = - alt n*alt (n-1-k):=by
          have O:=zHn (n:=n) (k:=k+1) oM oM;rw [cD e,zMj oM,show n-(k+1)=n-1-k by omega] at O;grind
         rw [this]
     . rw [C k oM];simp [ed]
   . have:alt n * -alt n = -1:=by have:=zTb n;grind
     rw [this];rfl
 . rw [ct e,ct e,ct e];refine ⟨alt (n-1),alt (n-1),⟨Y,M,da,db,Z,X,V,zNs _,zNs _,fun k => ?_,fun k => ?_⟩,?_⟩
   . rw [G,ha];by_cases B:k<=n
     . by_cases A:(n-k)%2=0
       . rw [cD A,cD oM,zHn B A,ct e]
       . rw [ct A,ct oM,ed]
     . rw [C k oM];simp [ed]
   . rw [F,I];by_cases B:k<=n
     . by_cases A:(n-k)%2=0
       . rw [cD A,ct oM,ed]
       . rw [ct A,cD oM];have:alt k=alt (n-1)*alt (n-1-k):=by
          have O:=zHn (n:=n-1) (k:=k) oM oM;rwa [cD oM] at O
         rw [this]
     . rw [C k oM];simp [ed]
   . rw [zTb];rfl
theorem zJZ:∀ {f:Nat} {g:Poly} {m t:Int},zJY f g m=some t->Trimd g->g≠[]->(g.length=1->t=m)/\(1<g.length->m+3-(g.length:Int)<=t/\t<=m+g.length-1)
 | 0,_,_,_,h,_,_=>by cases h
 | f+1,g,m,t,h,V,O=>by
  have hl:=zz O;unfold zJY at h;rw [zo V] at h;split at h
  . next e=>cases h;exact ⟨fun _=>rfl,fun h=>absurd h oM⟩
  . next e =>
    refine ⟨fun h=>absurd h oM,fun _ => ?_⟩;obtain ⟨c,B,h⟩:=cbind h;obtain ⟨d,M,h⟩:=cbind h;obtain ⟨k,hk,h⟩:=cbind h;obtain ⟨n,hn⟩:∃ n,g.length=n+2:=⟨g.length-2,oM⟩;obtain ⟨d1,d2⟩:=zBC M;have dl:∀ {x d:Poly} {n:Nat},Trimd x->x.length=n+2->zCN x=some d->d.length=n+1:=fun {x d n} hx hxn M=>by
     obtain ⟨d1,d2⟩:=zBC M;refine zCR d1 ?_ fun i hi => ?_
     . rw [d2];have h1:=hx (n+1) hxn;have h2:((n+1:Nat):Rat)≠0:=by
        have:0<((n+1:Nat):Rat):=Rat.natCast_pos.2 oM;grind
       grind
     . rw [d2,co_ge oM];grind
    have U:=dl V hn M;have hd0:d≠[]:=fun e=>by rw [e] at U;cases U
    obtain ⟨k1,k2,k3,_⟩:=zDD hk V d1;have hk0:=k2 (.inl O);have hkl:=zz hk0;have:=k3 hd0;obtain ⟨i1,i2⟩:=zJZ h k1 hk0
    -- the chain
    obtain ⟨s,C,B⟩:=cbind B;obtain ⟨s',G,B⟩:=cbind B;unfold zRc at C;rw [M] at C;obtain ⟨d',F,C⟩:=cbind C;cases F;obtain ⟨k',F,C⟩:=cbind C;rw [hk] at F;cases F;obtain ⟨s1,s2⟩:=zCh C V k1;obtain ⟨j,hj⟩:∃ j,s.length=j+2:=⟨s.length-2,oM⟩;have hsl:=dl s1 hj G;obtain ⟨P,hP,B⟩:=cbind B;obtain ⟨Q,hQ,B⟩:=cbind B;obtain ⟨P1,X,u,hu,P3⟩:=zAj hP;obtain ⟨Y,Z,v,hv,Q3⟩:=zAj hQ;rw [zo s1] at X;rw [zo (zBC G).1] at Z;have hP0:P≠[]:=fun e=>by rw [e] at X;simp at X;omega
    have H:Q≠[]:=fun e=>by rw [e] at Z;simp at Z;omega
    have A:zBe (Q.length+2) P Q=some c:=B;unfold zBe at A;rw [ct hP0,ct H] at A;obtain ⟨R,hR,A⟩:=cbind A;obtain ⟨r,hr,A⟩:=cbind A;obtain ⟨S,hS,A⟩:=cbind A;obtain ⟨l,ad,A⟩:=cbind A;cases A;have hrem:=zBj hR;rw [zo Y] at hrem;have F:=zEY hr hrem.2.2.1 dE;obtain ⟨S1,S2,_⟩:=zAj hS;rw [zo (zBD hr).1] at S2;obtain ⟨⟨I,rfl⟩,b1,b2⟩:=zES ad Y S1 oM;have hdif:dif (P :: Q :: I)=1+dif (Q :: I):=by
     rw [zJg I P1 Y hP0 H,ct oM,zRR (zEM P1 hP0) (zEM Y H),zBM,zBM,X,Z,hj,hsl];show sg (co P (j+1)*co Q j)+_=_;rw [P3,Q3,(zBC G).2];have h1:=s1 (j+1) hj;have h2:0<((j+1:Nat):Rat):=Rat.natCast_pos.2 oM;have h3:0<co s (j+1)*co s (j+1):=by
      by_cases e:0<co s (j+1)
      . exact fh e e
      . have:=fh (gR:0 < -co s (j+1)) (gR:0 < -co s (j+1));grind
     rw [show co s (j+1)*u*(co s (j+1)*((j+1:Nat):Rat)*v)=(co s (j+1)*co s (j+1))*(u*v*((j+1:Nat):Rat)) by grind,
      sg_pos (fh h3 (fh (fh hu hv) h2))]
    have ae:zAv true (P :: Q :: I)-zAv false (P :: Q :: I)=1+dif (Q :: I):=hdif;rw [ae] at i1 i2;by_cases F:k.length=1
    . have:=i1 F;omega
    . have:=i2 oM;omega
theorem half2_nonneg {x:Int} (h : -1<=x):0<=half2 x:=by
 unfold half2;rcases Int.lt_or_le x 0 with e | e
 . obtain rfl:x = -1:=by omega
   decide
 . rw [fK e];omega
theorem zQr {x:Int} (h:0<=x):half2 x=x/2:=fK h
theorem zGi (x g u:Rat):x/g*u=x*(1/g*u):=gR
theorem zGo {g u:Rat} (e:g≠0) (h:0<u):1/g*u≠0:=by
 have:1/g≠0:=gR
 grind
theorem mul_four (c d g u v:Rat):c*(1/g*u)*(d*(1/g*v))=(c*d)*((1/g)*(1/g)*(u*v)):=gR
theorem sq_pos {g:Rat} (h:g≠0):0<(1/g)*(1/g):=by
 have:1/g≠0:=gR
 by_cases e:0<1/g
 . exact fh e e
 . have:=fh (gR:0 < -(1/g)) (gR:0 < -(1/g));grind
theorem zSz {c d:Rat} (e:c≠0) (h:d≠0):c*d≠0:=gR
theorem ne_of_pos (h:0<x):x≠0:=gR
theorem hurwitz_iff {F:Option Poly} {r:Int×Int} (hp:Trimd p) (aA:p≠[]) (hF:fracL (p.length-1) (fracA p) (fracB p)=some F) (G:zJT p=some r) :
 (zGD F->r=(0,0))/\(¬ zGD F->0<r.1+r.2):=by
 obtain ⟨n,hn⟩:∃ n,p.length=n+1:=⟨p.length-1,by have:=zz aA;omega⟩;rw [hn,dD] at hF;unfold zJT at G;rw [zo hp] at G;obtain ⟨⟨re,im⟩,hri,G⟩:=cbind G;obtain ⟨g,I,G⟩:=cbind G;obtain ⟨aI,aB,G⟩:=cbind G;obtain ⟨B,ae,G⟩:=cbind G;obtain ⟨C,ah,G⟩:=cbind G;obtain ⟨L,O,G⟩:=cbind G;cases G;simp only at I ae ah O ⊢;obtain ⟨t1,t2,a1,a2⟩:=zQQ hri;simp only at t1 t2 a1 a2;obtain ⟨c,d,H,hs⟩:=zMx hp hn t1 t2 a1 a2
 -- the zBt divisor
 have A:=H.lP;have hlq:(if n%2=0 then im else re).length<=n:=by rw [H.lQ];exact H.lb
 obtain ⟨g1,g2,g3,g4⟩:=zDD I t1 t2;have hg0:g≠[]:=g2 (by
  by_cases e:n%2=0
  . rw [cD e] at A;exact .inl fun h=>by rw [h] at A;cases A
  . rw [ct e] at A;exact .inr fun h=>by rw [h] at A;cases A)
 have aY:=zz hg0;have hG:∃ f' P' Q' c' d',HP n c' d' (fracA p) (fracB p) P' Q'/\zBT f' P' Q'=some g:=by
  obtain ⟨x,hx,I⟩:=cbind I;obtain ⟨y,hy,I⟩:=cbind I;obtain ⟨x1,x2,u,hu,U⟩:=zBN hx;obtain ⟨y1,y2,v,hv,V⟩:=zBN hy;rw [zo t1] at x2;rw [zo t2] at y2;by_cases e:n%2=0
  . rw [cD e,cD e] at H;exact ⟨_,_,_,_,_,H.scale x1 y1 hu hv U V,I⟩
  . rw [ct e] at A hlq;rw [ct e,ct e] at H;have aC:y≠[]:=fun h=>by rw [h] at y2;simp at y2;omega
    unfold zBT at I;rw [ct aC] at I;obtain ⟨R,hR,I⟩:=cbind I;obtain ⟨m,hm,I⟩:=cbind I;rw [zKv hR (by rw [zo x1,zo y1];omega)] at hm;simp only [zo x1] at hm;obtain ⟨m1,m2,w,hw,m3⟩:=zBN hm;refine ⟨_,_,_,_,_,H.scale y1 m1 hv (t:=u*w) gR V fun k=>by rw [m3,U];grind,I⟩
 obtain ⟨f',P',Q',c',d',H',X⟩:=hG;obtain ⟨T1,T2⟩:=zJZ (f:=g.length+1) aB g1 hg0;rw [zo g1]
 -- the chain
 obtain ⟨r1,r2⟩:=zCh ae t1 g1;obtain ⟨i1,i2⟩:=zCh ah t2 g1;obtain ⟨x,hx,O⟩:=cbind O;obtain ⟨y,hy,O⟩:=cbind O;obtain ⟨x1,x2,u,hu,U⟩:=zAj hx;obtain ⟨y1,y2,v,hv,V⟩:=zAj hy;change zBe (y.length+2) x y=some L at O;have htx:Trimd (if decide (C.length<B.length)=true then B else C):=by split<;>assumption
 have aD:Trimd (if decide (C.length<B.length)=true then C else B):=by split<;>assumption
 rw [zo htx] at x2;rw [zo aD] at y2;have Y:max (B.length:Int) C.length=x.length/\y.length<=x.length:=by
  rw [x2,y2];by_cases e:C.length<B.length
  . simp only [e,iM,ga];omega
  . simp only [e,iG,fY,ew];omega
 rw [Y.1];have aE:=chainL_dif' O x1 y1 Y.2;have hturn : -1<=((x.length:Int)-1)-(if decide (C.length<B.length)=true then -1 else 1)*(zAv true L-zAv false L):=by
  have e:zAv true L-zAv false L=dif L:=rfl;rw [e];rcases aE with ⟨h1,h2⟩ | ⟨h1,h2,h3⟩
  . rw [h2,h1];simp
  . split<;>omega
 by_cases M:g.length=1
 . -- no zBt divisor
   have am:=T1 M;subst am;have k1:=zJS ae g1 M;have k2:=zJS ah g1 M;have hgc:co g 0≠0:=g1 0 M;have hsw:decide (C.length<B.length)=decide (n%2=0):=by
    apply fR.2;by_cases e:n%2=0
    . rw [cD e] at A hlq;exact ⟨fun _=>e,fun _=>by omega⟩
    . rw [ct e] at A hlq;exact ⟨fun h=>by omega,fun h=>absurd h e⟩
   rw [hsw] at hx hy hturn ⊢;have H2:∃ c2 d2,HP n c2 d2 (fracA p) (fracB p) x y/\sg (c2*d2)=if n%2=0 then -1 else 1:=by
    refine ⟨c*(1/co g 0*u),d*(1/co g 0*v),?_,?_⟩
    . rw [hsw] at U V;by_cases e:n%2=0
      . simp only [e,iM,ga] at H U V;exact H.scale x1 y1 (zGo hgc hu) (zGo hgc hv) (fun k=>by rw [U,k1,zGi]) (fun k=>by rw [V,k2,zGi])
      . simp only [e,iG,fY,ew] at H U V;exact H.scale x1 y1 (zGo hgc hu) (zGo hgc hv) (fun k=>by rw [U,k2,zGi]) (fun k=>by rw [V,k1,zGi])
    . have hc:=H.hc;have hd:=H.hd;have hpos:=fh (sq_pos hgc) (fh hu hv);rw [mul_four,sg_mul (zSz hc hd) (ne_of_pos hpos),sg_pos hpos,hs];split<;>rfl
   obtain ⟨c2,d2,H2,aF⟩:=H2;have Z:=zGP n H2 H' O hF X;have hxl:=H2.lP;rw [aF] at Z;have e:zAv true L-zAv false L=dif L:=rfl;rw [e] at hturn ⊢;have hself:∀ z:Int,(if decide (n%2=0)=true then (-1:Int) else 1)*z=(if n%2=0 then (-1:Int) else 1)*z:=fun z=>by
    by_cases e:n%2=0<;>simp [e]
   rw [hself] at hturn ⊢;have hz:half2 ((g.length:Int)-1-0)=0:=by rw [M];rfl
   rw [hz];rcases Z with ⟨m1,m2,_⟩ | ⟨m1,m2⟩
   . refine ⟨fun _ => ?_,fun h=>absurd m1 h⟩;have:(if n%2=0 then (-1:Int) else 1)*dif L=n:=by
      rw [m2];split<;>omega
     rw [this,hxl];have:((n+1:Nat):Int)-1-n=0:=oM
     rw [this];rfl
   . refine ⟨fun h=>absurd h m1,fun _ => ?_⟩;have m3:=m2.resolve_right oM;show 0<_+_+(0:Int);rw [zQr oM,hxl];omega
 . -- a zBt divisor
   obtain ⟨b1,b2⟩:=T2 oM;refine ⟨fun h => ?_,fun _ => ?_⟩
   . -- impossible: a positive continued zCf has no zBt divisor
     exact absurd (zKa n H' hF X h) M
   . show 0<_+_+aI;have h1:=half2_nonneg hturn;rw [zQr (x:=(g.length:Int)-1-aI) oM];omega
variable {D:Int} {m:Nat}
theorem divInt_of {z:Int} (A:D≠0) (h:x*D=z):x=Rat.divInt z D:=by
 have B:(D:Rat)≠0:=fun e=>A (by exact_mod_cast e);rw [Rat.divInt_eq_div];grind
theorem zFU (h:n<2^a):n.log2<=a:=by
 by_cases e:n=0
 . subst e;simp
 . exact eU ((gd e).2 h)
theorem sz_of {z:Int} (e:D≠0) (h:x*D=z) (B:2*z.natAbs<=2^a) (C:2*D.natAbs<=2^a):sz x<=2*a:=by
 have A:=divInt_of e h;have hpos:0<2^a:=iy a;have h1:x.num.natAbs<=z.natAbs:=by
  rw [A,Rat.num_divInt];refine dz (Int.natAbs_ediv_le_natAbs _ _) ?_;rw [ey];have:D.sign.natAbs<=1:=by rw [Int.natAbs_sign];split<;>omega
  exact dz (dx _ this) oM
 have F:x.den<=D.natAbs:=by
  rw [A,Rat.den_divInt,ct e];exact fg _ _
 unfold sz;have:=zFU (oM:x.num.natAbs<2^a);have:=zFU (oM:x.den<2^a);omega
def CHD (a:Nat) (D:Int) (P:Poly):Prop:=D≠0/\2*D.natAbs<=2^a/\∀ k,∃ z:Int,co P k*D=z/\2*z.natAbs<=2^a
def CH (a:Nat) (P:Poly):Prop:=∃ D,CHD a D P
theorem CHD.le {P:Poly} (h:CHD a D P) (A:a<=b):CHD b D P :=
 have e:2^a<=2^b:=dw oM A
 ⟨h.1,dz h.2.1 e,fun k=>let ⟨z,B,C⟩:=h.2.2 k;⟨z,B,dz C e⟩⟩
theorem CH.le {P:Poly} (h:CH a P) (e:a<=b):CH b P:=let ⟨D,h⟩:=h;⟨D,h.le e⟩
theorem CHD.sz {P:Poly} (h:CHD a D P) (k:Nat):sz (co P k)<=2*a:=let ⟨_,e,A⟩:=h.2.2 k;sz_of h.1 e A h.2.1
theorem CH.sz {P:Poly} (h:CH a P) (k:Nat):sz (co P k)<=2*a:=let ⟨_,h⟩:=h;h.sz k
theorem CHD.of_co {P:Poly} (h:CHD a D P) (e:∀ k,co Q k=co P k):CHD a D Q:=⟨h.1,h.2.1,fun k=>by rw [e];exact h.2.2 k⟩
theorem CHD.nil (e:D≠0) (A:2*D.natAbs<=2^a) {P:Poly} (h:∀ k,co P k=0):CHD a D P:=⟨e,A,fun k=>⟨0,by rw [h,dO];rfl,sM⟩⟩
theorem zJm (h:sz x+sz y<1099511627776):rroom x y=true:=cZ h
theorem zCg {x y:Nat} (e:2*x<=2^a) (h:2*y<=2^b):4*(x*y)<=2^(a+b):=by
 rw [eM];have:=fs e h;rw [show 2*x*(2*y)=4*(x*y) by rw [Nat.mul_mul_mul_comm]] at this;exact this
theorem zCy (h:D≠0):(D:Rat)≠0:=fun e=>h (by exact_mod_cast e)
theorem zGm (h:sz x+sz y<1099511627776):rdiv x y=some (x/y):=cD (zJm h)
theorem rmul_some' (h:sz x+sz y<1099511627776):rmul x y=some (x*y):=cD (zJm h)
theorem radd_some' (h:sz x+sz y<1099511627776):radd x y=some (x+y):=cD (zJm h)
theorem rsub_some' (h:sz x+sz y<1099511627776):rsub x y=some (x-y):=cD (zJm h)
theorem zPK {c:Rat} {u v x y:Nat} (e:u+v<1099511627776) (h:x+y<1099511627776) (A:sz c<=v):∀ {q:Poly} {i:Nat} {O:Poly},(∀ k,sz (co q k)<=u)->(∀ k,sz (c*co q k)<=y)->(∀ k,i<=k->sz (co O k)<=x)->i+q.length<=O.length->∃ R,zHJ c q i O=some R
 | [],i,O,_,_,_,_=>⟨O,rfl⟩
 | d :: q,i,O,a1,a2,a3,B=>by
  simp at B;have C:=a1 0;have e2:=a2 0;have e3:=a3 i (cX _);rw [zAf] at C e2;obtain ⟨R,F⟩:=zPK (O:=O.set i (co O i-c*d)) (i:=i+1) e h A (fun k=>a1 (k+1)) (fun k=>a2 (k+1)) (fun k hk=>by rw [zDN oM,ct oM];exact a3 k oM) (by simp;omega);refine ⟨R,?_⟩;unfold zHJ;rw [rmul_some' oM];show (rsub (co O i) (c*d)).bind _=_;rw [rsub_some' oM];exact F
theorem zSw {x:Rat}:∀ {p:Poly},(∀ k,sz (co p k)+sz x<1099511627776)->∃ r,mapO (fun c=>rmul c x) p=some r
 | [],_=>⟨[],rfl⟩
 | c :: p,h=>by
  obtain ⟨r,e⟩:=zSw (p:=p) fun k=>h (k+1);refine ⟨c*x :: r,?_⟩;have h0:=h 0;rw [zAf] at h0;unfold mapO;rw [rmul_some' h0,e];rfl
theorem zLA (h:∀ k,sz (co p k)+sz x<1099511627776):∃ r,zDg p x=some r:=by
 obtain ⟨r,e⟩:=zSw h;exact ⟨trim r,by unfold zDg;rw [e];rfl⟩
theorem zJh {E:Int} {h:Poly} (F:CHD a D h) (G:CHD b E q) (M:co q n≠0) :
 ∃ w:Int,co q n*E=w/\w≠0/\2*w.natAbs<=2^b/\4*(D*w).natAbs<=2^(a+b)/\D*w≠0 /\
  (∃ z:Int,(co h m/co q n)*((D*w:Int):Rat)=z/\4*z.natAbs<=2^(a+b))/\∀ j,∃ z:Int,(co h m/co q n*co q j)*((D*w:Int):Rat)=z/\4*z.natAbs<=2^(a+b):=by
 obtain ⟨w,A,B⟩:=G.2.2 n;obtain ⟨z,I,C⟩:=F.2.2 m;have hE:=zCy G.1;have hD:=zCy F.1;have hw0:w≠0:=fun e=>by
  rw [e] at A;have:co q n*(E:Rat)=0:=A;exact absurd gR M
 have U:=zCy hw0;refine ⟨w,A,hw0,B,?_,iz F.1 hw0,⟨z*E,?_,?_⟩,fun j => ?_⟩
 . rw [ey];exact zCg F.2.1 B
 . rw [dH,dH,<- I,<- A];grind
 . rw [ey];exact zCg C G.2.1
 . obtain ⟨y,O,H⟩:=G.2.2 j;refine ⟨z*y,?_,?_⟩
   . rw [dH,dH,<- I,<- A,<- O];grind
   . rw [ey];exact zCg C H
theorem zSO {q:Poly} {b:Nat} {E:Int} (hq:Trimd q) (B:q≠[]) (U:CHD b E q):∀ {f:Nat} {A quo:Poly} {a:Nat} {D:Int},CHD a D A->CHD a D quo->Trimd A->A.length<f->A.length<quo.length+q.length ->
 4*(a+(A.length+1-q.length)*b)<1099511627776->∃ Q r,divL q f A quo=some (Q,r)/\∃ V,CHD (a+(A.length+1-q.length)*b) V Q/\CHD (a+(A.length+1-q.length)*b) V r
 | 0,_,_,_,_,_,_,_,h,_,_=>absurd h oM
 | f+1,A,quo,a,D,G,h2,ht,hf,hl,hM=>by
  by_cases e:A.length<q.length
  . refine ⟨trim quo,A,?_,D,(h2.of_co (zAU quo)).le oM,G.le oM⟩;unfold divL;rw [cD e]
  . have ar:=zz B;obtain ⟨w,hw,hw0,hw2,d1,d2,⟨z,X,z2⟩,d3⟩:=zJh (m:=A.length-1) (n:=q.length-1) G U (zBn hq B);have hs:a+b<=a+(A.length+1-q.length)*b:=by
     have:1*b<=(A.length+1-q.length)*b:=dx b oM;omega
    have C:∀ j,sz (co A (A.length-1)/co q (q.length-1)*co q j)<=2*(a+b):=fun j=>by
     obtain ⟨z,X,z2⟩:=d3 j;exact sz_of d2 X oM oM
    have hc:sz (co A (A.length-1)/co q (q.length-1))<=2*(a+b):=sz_of d2 X oM oM;obtain ⟨r0,I⟩:=zPK (c:=co A (A.length-1)/co q (q.length-1)) (q:=q) (i:=A.length-q.length) (O:=A) (u:=2*b) (v:=2*(a+b)) (x:=2*a) (y:=2*(a+b)) oM oM hc (fun k=>U.sz k) C (fun k _=>G.sz k) oM;have hdiv:rdiv (top A) (top q)=some (co A (A.length-1)/co q (q.length-1)):=zGm (by
     have e1:=G.sz (A.length-1);have F:=U.sz (q.length-1);rw [zBM,zBM];omega)
    obtain ⟨k1,k2,k3,k4⟩:=zFY hq B oM hdiv I;have hn:A.length-q.length<quo.length:=oM
    have n1:CHD (a+b) (D*w) (trim r0):=⟨d2,oM,fun k=>by
     rw [k1];obtain ⟨y,Y,Z⟩:=G.2.2 k;by_cases F:A.length-q.length<=k
     . rw [cD F];obtain ⟨x,x1,x2⟩:=d3 (k-(A.length-q.length));refine ⟨y*w-x,?_,?_⟩
       . rw [Rat.intCast_sub,<- x1,dH y w,<- Y,dH];grind
       . have H:=zCg Z hw2;rw [<- ey] at H;omega
     . rw [ct F];refine ⟨y*w,?_,?_⟩
       . rw [dH,dH,<- Y];grind
       . have H:=zCg Z hw2;rw [<- ey] at H;omega⟩
    have n2:CHD (a+b) (D*w) (quo.set (A.length-q.length) (co A (A.length-1)/co q (q.length-1))):=⟨d2,oM,fun k=>by
     rw [zDN hn];by_cases F:k=A.length-q.length
     . rw [cD F];exact ⟨z,X,oM⟩
     . rw [ct F];obtain ⟨y,Y,Z⟩:=h2.2.2 k;refine ⟨y*w,?_,?_⟩
       . rw [dH,dH,<- Y];grind
       . have H:=zCg Z hw2;rw [<- ey] at H;omega⟩
    have M:a+b+((trim r0).length+1-q.length)*b<=a+(A.length+1-q.length)*b:=by
     have h5:((trim r0).length+1-q.length+1)*b<=(A.length+1-q.length)*b:=dx b oM;rw [eF,eG] at h5;omega
    obtain ⟨Q,r,g1,V,g2,g3⟩:=zSO (f:=f) hq B U n1 n2 k3 oM (by simp;omega) oM;refine ⟨Q,r,?_,V,g2.le M,g3.le M⟩;unfold divL;rw [ct e,hdiv];show (zHJ _ q _ A).bind _=_;rw [I];exact g1
theorem zKt (B:Trimd p) (C:Trimd q) (h:q≠[]) (A:CH a p) (F:CH b q) (H:4*(a+(p.length+1-q.length)*b)<1099511627776) :
 ∃ R,pdiv p q=some R/\CH (a+(p.length+1-q.length)*b) R.1/\CH (a+(p.length+1-q.length)*b) R.2:=by
 obtain ⟨D,A⟩:=A;obtain ⟨E,F⟩:=F;have hqn:=zz h;by_cases e:p.length<q.length
 . refine ⟨([],p),?_,⟨D,CHD.nil A.1 (A.le (gV _ _)).2.1 fun k=>rfl⟩,⟨D,A.le (gV _ _)⟩⟩;unfold pdiv;rw [zo B,zo C,ct h];unfold divL;rw [cD e,show p.length+1-q.length=0 by omega];rfl
 . obtain ⟨Q,r,I,G,M,O⟩:=zSO (f:=p.length+1) (quo:=List.replicate (p.length+1-q.length) 0) C h F A (CHD.nil A.1 A.2.1 fun k=>zBG _ k) B oM (by simp;omega) H;refine ⟨(Q,r),?_,⟨G,M⟩,⟨G,O⟩⟩;unfold pdiv;rw [zo B,zo C,ct h];exact I
theorem zIF (h:Trimd p) (A:Trimd q) (e:q≠[]) (B:CH a p) (C:CH b q) (F:4*(a+(p.length+1-q.length)*b)<1099511627776) :
 ∃ R,zCO p q=some R/\CH (a+(p.length+1-q.length)*b) R:=by
 obtain ⟨R,G,H,_⟩:=zKt h A e B C F;exact ⟨R.1,by unfold zCO;rw [G];rfl,H⟩
theorem zMS:sz 1=0:=dE
theorem zLN {z:Int} (A:x≠0) (B:D≠0) (h:x*D=z) (C:2*z.natAbs<=2^a) (F:2*D.natAbs<=2^a):sz (1/x)<=2*a:=by
 have G:=zCy B;have hz0:z≠0:=fun e=>by
  rw [e] at h;have:x*(D:Rat)=0:=h;exact A gR
 exact sz_of (z:=D) (D:=z) hz0 (by rw [<- h];grind) F C
theorem zRU {c:Rat} (h:CH a p) (C:top p≠0) (F:c=1/top p\/c = -(1/top p)) (U:4*a<1099511627776):∃ r,zDg p c=some r/\CH a r:=by
 obtain ⟨D,h⟩:=h;rw [zBM] at C F;obtain ⟨z,B,G⟩:=h.2.2 (p.length-1);have hD:=zCy h.1;have A:z≠0:=fun e=>by
  rw [e] at B;have:co p (p.length-1)*(D:Rat)=0:=B;exact C gR
 have O:=zCy A;have hsz:sz c<=2*a:=by
  rcases F with e | e
  . exact sz_of (z:=D) (D:=z) A (by rw [e,<- B];grind) h.2.1 G
  . exact sz_of (z := -D) (D:=z) A (by rw [e,<- B,fQ];grind) (by rw [fx];exact h.2.1) G
 obtain ⟨r,H⟩:=zLA (p:=p) (x:=c) fun k=>by have:=h.sz k;omega
 refine ⟨r,H,z,A,G,fun k => ?_⟩;rw [(zBD H).2];obtain ⟨y,I,M⟩:=h.2.2 k;rcases F with e | e
 . exact ⟨y,by rw [e,<- I,<- B];grind,M⟩
 . exact ⟨-y,by rw [e,fQ,<- I,<- B];grind,by rw [fx];exact M⟩
theorem zHz (A:Trimd p) (h:CH a p) (B:4*a<1099511627776):∃ r,monic p=some r/\CH a r:=by
 unfold monic;rw [zo A];by_cases e:p=[]
 . rw [cD e];subst e;exact ⟨[],rfl,h⟩
 . rw [ct e];have C:=zEM A e;obtain ⟨r,F,G⟩:=zRU h C (.inl rfl) B;refine ⟨r,?_,G⟩;rw [zGm (by have:=h.sz (p.length-1);rw [zMS,zBM];omega)];exact F
theorem zFa (A:Trimd p) (h:CH a p) (C:4*a<1099511627776):∃ r,zCU p=some r/\CH a r:=by
 unfold zCU;rw [zo A];by_cases e:p=[]
 . rw [cD e];subst e;exact ⟨[],rfl,h⟩
 . rw [ct e];have F:=zEM A e;have B:rabs (top p)=top p\/rabs (top p) = - top p:=by unfold rabs;split<;>simp
   have G:sz (rabs (top p))=sz (top p):=by
    rcases B with e | e<;>rw [e];unfold sz;rw [hZ,fx,iN]
   obtain ⟨r,H,I⟩:=zRU (c:=1/rabs (top p)) h F (B.imp (fun e=>by rw [e]) fun e=>by rw [e];grind) C;refine ⟨r,?_,I⟩;rw [zGm (by have:=h.sz (p.length-1);rw [zMS,G,zBM];omega)];exact H
theorem zIG (h:CH a p) (F:4*a<1099511627776):∃ r,zDg p (-1)=some r/\CH a r:=by
 obtain ⟨D,h⟩:=h;obtain ⟨r,A⟩:=zLA (p:=p) (x := -1) fun k=>by
  have:=h.sz k;have e:sz (-1)=0:=dE
  omega
 refine ⟨r,A,D,h.1,h.2.1,fun k => ?_⟩;obtain ⟨y,B,C⟩:=h.2.2 k;exact ⟨-y,by rw [(zBD A).2,fQ,<- B];grind,by rw [fx];exact C⟩
theorem zKM {a:Nat} (A:2*a+64<1099511627776):∀ {p:Poly} {i:Nat},(∀ k,sz (co p k)<=2*a)->p.length+i<1000->∃ r,zFN p i=some r
 | [],i,_,_=>⟨[],rfl⟩
 | c :: p,i,h,B=>by
  simp at B;unfold zFN;by_cases e:i=0
  . rw [cD e];exact zKM A (fun k=>h (k+1)) oM
  . rw [ct e];obtain ⟨r,C⟩:=zKM (p:=p) (i:=i+1) A (fun k=>h (k+1)) oM;have h0:=h 0;rw [zAf] at h0;have hi:sz ((i:Nat):Rat)<=10:=by
     unfold sz;have F:((i:Nat):Rat).num.natAbs=i:=by rw [Rat.num_natCast];rfl
     have G:((i:Nat):Rat).den=1:=Rat.den_natCast i;rw [F,G];have:=zFU (oM:i<2^10);have:Nat.log2 1=0:=dE
     omega
    rw [rmul_some' oM,C];exact ⟨_,rfl⟩
theorem zDp:sz 0=0:=dE
theorem zJX (x:Rat):sz (-x)=sz x:=by unfold sz;rw [hZ,fx,iN]
theorem zMe {u v:Nat} (h:u+v<1099511627776):∀ {q:Poly} {i:Nat} {O:Poly},(∀ k,sz (co q k)<=u)->(∀ k,i<=k->sz (co O k)<=v)->i+q.length<=O.length->∃ R,addAt q i O=some R
 | [],i,O,_,_,_=>⟨O,rfl⟩
 | c :: q,i,O,e,A,B=>by
  simp at B;obtain ⟨R,C⟩:=zMe (q:=q) (i:=i+1) (O:=O.set i (co O i+c)) h (fun k=>e (k+1)) (fun k hk=>by rw [zDN oM,ct oM];exact A k oM) (by simp;omega);refine ⟨R,?_⟩;have e1:=e 0;have e2:=A i (cX _);rw [zAf] at e1;unfold addAt;show (radd (co O i) c).bind _=_;rw [radd_some' oM];exact C
theorem zPq {u v:Nat} (h:u+v<1099511627776) (A:∀ k,sz (co p k)<=u) (B:∀ k,sz (co q k)<=v):∃ r,padd p q=some r:=by
 unfold padd;split
 . obtain ⟨R,e⟩:=zMe (i:=0) oM A (fun k _=>B k) oM;exact ⟨trim R,by rw [e];rfl⟩
 . obtain ⟨R,e⟩:=zMe (i:=0) oM B (fun k _=>A k) oM;exact ⟨trim R,by rw [e];rfl⟩
theorem zTF {u v:Nat} (h:u+v<1099511627776) (C:∀ k,sz (co p k)<=u) (A:∀ k,sz (co q k)<=v):∃ r,psub p q=some r:=by
 obtain ⟨m,B⟩:=zLA (p:=q) (x := -1) fun k=>by
  have:=A k;have e:sz (-1)=0:=dE
  omega
 obtain ⟨r,F⟩:=zPq (p:=p) (q:=m) h C fun k=>by
  rw [(zBD B).2,show co q k * -1 = -co q k by grind,zJX];exact A k
 exact ⟨r,by unfold psub;rw [B];exact F⟩
theorem zKy (A:p.length<=4096):∃ r,pmul p []=some r:=by
 have h:∀ (p:Poly) (i:Nat) (O:Poly),mulL [] p i O=some O:=fun p=>by
  induction p with
  | nil=>intro i O;rfl
  | cons a p e =>
   intro i O;unfold mulL;split
   . exact e _ _
   . exact e _ _
 refine ⟨trim (List.replicate (p.length+0) 0),?_⟩;unfold pmul;rw [ct (by simp;omega),h];rfl
theorem zPo {x:Rat} {u v y:Nat} (e:u+v<1099511627776) (h:y+y<1099511627776) (A:sz x<=v):∀ {p:Poly} {i:Nat} {O:Poly},(∀ k,sz (co p k)<=u)->(∀ k,sz (co p k*x)<=y)->(∀ k,i<k->co O k=0)->sz (co O i)<=y->i+p.length+2<=O.length->∃ R,mulL [0,x] p i O=some R
 | [],i,O,_,_,_,_,_=>⟨O,rfl⟩
 | a :: p,i,O,a1,a2,a3,a4,B=>by
  simp at B;have C:=a1 0;have e2:=a2 0;rw [zAf] at C e2;unfold mulL;split
  . exact zPo e h A (fun k=>a1 (k+1)) (fun k=>a2 (k+1)) (fun k hk=>a3 k oM) (by rw [a3 _ oM,zDp];omega) oM
  . have F:zIB a [0,x] i O=some ((O.set i (co O i+a*0)).set (i+1) (co (O.set i (co O i+a*0)) (i+1)+a*x)):=by
     unfold zIB;rw [rmul_some' (by rw [zDp];omega)];show ((radd (co O i) (a*0)).bind _)=_;rw [radd_some' (by rw [ed,zDp];omega)];show zIB a [x] (i+1) (O.set i (co O i+a*0))=_;unfold zIB;rw [rmul_some' oM];show ((radd (co (O.set i (co O i+a*0)) (i+1)) (a*x)).bind _)=_;rw [radd_some' (by rw [zDN oM,ct oM,a3 _ oM,zDp];omega)];rfl
    rw [F];refine zPo e h A (fun k=>a1 (k+1)) (fun k=>a2 (k+1)) (fun k hk => ?_) ?_ (by simp;omega)
    . rw [zDN (by simp;omega),ct oM,zDN oM,ct oM];exact a3 k oM
    . rw [zDN (by simp;omega),cD rfl,zDN oM,ct oM,a3 _ oM,gs];exact e2
theorem zNM {u v y:Nat} (e:u+v<1099511627776) (h:y+y<1099511627776) (A:sz x<=v) (a1:∀ k,sz (co p k)<=u) (a2:∀ k,sz (co p k*x)<=y) (C:p.length<=4094):∃ r,pmul p [0,x]=some r:=by
 obtain ⟨R,B⟩:=zPo (p:=p) (i:=0) (O:=List.replicate (p.length+[0,x].length) 0) e h A a1 a2 (fun k _=>zBG _ k) (by rw [zBG,zDp];omega) sM;refine ⟨trim R,?_⟩;unfold pmul;rw [ct (by simp;omega),B];rfl
theorem zOp {r:Poly} (h:pmul p [0,x]=some r):r.length<=p.length+1:=zAr (zDA h).1 fun i e=>by
 rw [(zDA h).2,zFM,ct oM,co_ge oM,dO]
theorem zRD {r:Poly} (h:padd p q=some r):r.length<=max p.length q.length:=zAr (zHd h).1 fun i e=>by
 rw [(zHd h).2,co_ge oM,co_ge (l:=q) oM,eD]
theorem psub_len {r:Poly} (h:psub p q=some r):r.length<=max p.length q.length:=zAr (zEH h).1 fun i e=>by
 rw [(zEH h).2,co_ge oM,co_ge (l:=q) oM,Rat.sub_self]
theorem zRH {r:Poly} (h:pmul p []=some r):r=[]:=zJa (zDA h).1 fun k=>by
 rw [(zDA h).2];have e:∀ (p:Poly) (k:Nat),conv p [] k=0:=fun p=>by
  induction p with
  | nil=>intro k;rfl
  | cons a p A =>
   intro k;cases k with
   | zero=>unfold conv;rw [zAa,ed]
   | succ k=>unfold conv;rw [zAa,ed,A,eD]
 exact e p k
theorem zNr {B:Nat} (U:B+B<1099511627776):∀ {l re im:Poly} {j:Nat},(∀ c,c∈l->sz c<=B)->(∀ k,sz (co re k)<=B)->(∀ k,sz (co im k)<=B)->re.length<=j->im.length<=j->j+l.length<=4000->∃ R,zJF [] [0,1] l re im=some R
 | [],re,im,j,_,_,_,_,_,_=>⟨(re,im),rfl⟩
 | c :: l,re,im,j,V,G,C,l1,l2,hl=>by
  simp at hl;have X:sz 1<=0:=by rw [zMS];omega
  obtain ⟨a,Y⟩:=zKy (p:=re) oM;obtain ⟨b,H⟩:=zNM (p:=im) (x:=1) (u:=B) (v:=0) (y:=B) oM oM X C (fun k=>by rw [iE];exact C k) oM;obtain ⟨e,he⟩:=zNM (p:=re) (x:=1) (u:=B) (v:=0) (y:=B) oM oM X G (fun k=>by rw [iE];exact G k) oM;obtain ⟨g,Z⟩:=zKy (p:=im) oM;have ea:=zRH Y;have eg:=zRH Z;subst ea;subst eg;have cb:∀ k,co b k=if k=0 then 0 else co im (k-1):=fun k=>by rw [(zDA H).2,zFM,iE]
  have ce:∀ k,co e k=if k=0 then 0 else co re (k-1):=fun k=>by rw [(zDA he).2,zFM,iE]
  have sb:∀ k,sz (co b k)<=B:=fun k=>by
   rw [cb];split
   . rw [zDp];omega
   . exact C _
  have se:∀ k,sz (co e k)<=B:=fun k=>by
   rw [ce];split
   . rw [zDp];omega
   . exact G _
  obtain ⟨d,I⟩:=zTF (p:=[]) (q:=b) (u:=0) (v:=B) oM (fun k=>by rw [zAa,zDp];omega) sb;have cd:∀ k,co d k = - co b k:=fun k=>by rw [(zEH I).2,zAa];grind
  have F:=V c sM;obtain ⟨M,h⟩:=zPq (p:=d) (q:=[c]) (u:=B) (v:=B) U (fun k=>by rw [cd,zJX];exact sb k) (fun k=>by
   cases k with
   | zero=>exact F
   | succ k=>rw [zAF,zAa,zDp];omega)
  obtain ⟨O,A⟩:=zPq (p:=e) (q:=[]) (u:=B) (v:=0) oM se (fun k=>by rw [zAa,zDp];omega);have m1:=zOp H;have m2:=zOp he;have m3:=psub_len I;have m4:=zRD h;have m5:=zRD A;simp at m3 m4 m5;obtain ⟨R,hR⟩:=zNr (l:=l) (re:=M) (im:=O) (j:=j+1) U (fun c F=>V c (by simp [F])) (fun k=>by
   rw [(zHd h).2,cd,cb];cases k with
   | zero=>rw [cD rfl,zAf,show -(0:Rat)+c=c by grind];exact F
   | succ k=>rw [ct oM,zAF,zAa,eD,zJX];exact C _) (fun k=>by rw [(zHd A).2,zAa,eD];exact se k) oM oM oM
  refine ⟨R,?_⟩;unfold zJF;rw [Y];show ((pmul im [0,1]).bind _)=_;rw [H];show ((psub [] b).bind _)=_;rw [I];show ((padd d [c]).bind _)=_;rw [h];show ((pmul re [0,1]).bind _)=_;rw [he];show ((pmul im []).bind _)=_;rw [Z];show ((padd e []).bind _)=_;rw [A];exact hR
theorem mem_co {c:Rat} (h:c∈p):∃ k,co p k=c:=by
 obtain ⟨k,A,e⟩:=List.mem_iff_getElem.1 h;exact ⟨k,by rw [zFK A];exact e⟩
def sm:Nat->(Nat->Rat)->Rat
 | 0,_=>0
 | n+1,f=>sm n f+f n
theorem zIT (x:Rat):0<=x*x:=by
 rcases Rat.le_total (a:=0) (b:=x) with h | h
 . exact dX h h
 . have:=dX (gR:0 <= -x) (gR:0 <= -x);grind
theorem sq_pos' (h:x≠0):0<x*x:=by
 have A:=zIT x;have h2:x*x≠0:=fun e=>by rcases Rat.mul_eq_zero.1 e with e | e<;>exact h e
 grind
def ev:Poly->Rat->Rat
 | [],_=>0
 | a :: p,x=>a+x*ev p x
theorem zKQ (x:Rat):∀ {p:Poly},(∀ k,co p k=0)->ev p x=0
 | [],_=>rfl
 | a :: p,h=>by rw [ev,zKQ x (p:=p) fun k=>h (k+1),show a=0 from h 0];grind
theorem zDf (x:Rat):∀ {p q:Poly},(∀ k,co p k=co q k)->ev p x=ev q x
 | [],q,h=>by rw [zKQ x (p:=q) fun k=>(h k).symm];rfl
 | a :: p,[],h=>zKQ x h
 | a :: p,b :: q,h=>by rw [ev,ev,show a=b from h 0,zDf x (p:=p) (q:=q) fun k=>h (k+1)]
theorem zSd (p:Poly) (x:Rat):ev p x=co p 0+x*ev p.tail x:=by
 cases p with
 | nil=>show (0:Rat)=0+x*0;grind
 | cons a p=>rfl
theorem co_tail (p:Poly) (k:Nat):co p.tail k=co p (k+1):=by
 cases p<;>rfl
theorem zDm (p:Poly) (x:Rat):ev (trim p) x=ev p x:=zDf x (zAU p)
def addl:Poly->Poly->Poly
 | [],q=>q
 | a :: p,[]=>a :: p
 | a :: p,b :: q=>(a+b) :: addl p q
theorem zEz:∀ (p q:Poly) (k:Nat),co (addl p q) k=co p k+co q k
 | [],q,k=>by rw [addl,zAa,gs]
 | a :: p,[],k=>by rw [addl,zAa,eD]
 | a :: p,b :: q,0=>rfl
 | a :: p,b :: q,k+1=>by rw [addl,zAF,zAF,zAF];exact zEz p q k
theorem zBI (x:Rat):∀ (p q:Poly),ev (addl p q) x=ev p x+ev q x
 | [],q=>by rw [addl,ev,gs]
 | a :: p,[]=>by rw [addl,ev,ev,eD]
 | a :: p,b :: q=>by rw [addl,ev,ev,ev,zBI x p q];grind
theorem zKP {r:Poly} (h:∀ k,co r k=co p k+co q k) (x:Rat):ev r x=ev p x+ev q x:=by
 rw [zDf x (q:=addl p q) fun k=>by rw [h,zEz],zBI]
theorem zBK (t x:Rat):∀ p:Poly,ev (p.map (· * t)) x=ev p x*t
 | []=>by show (0:Rat)=0*t;grind
 | a :: p=>by rw [fi,ev,ev,zBK t x p];grind
theorem zBf (t:Rat):∀ (p:Poly) (k:Nat),co (p.map (· * t)) k=co p k*t
 | [],k=>by rw [il,zAa,dO]
 | a :: p,0=>rfl
 | a :: p,k+1=>by rw [fi,zAF,zAF];exact zBf t p k
theorem zEN {r:Poly} {t:Rat} (h:∀ k,co r k=co p k*t) (x:Rat):ev r x=ev p x*t:=by
 rw [zDf x (q:=p.map (· * t)) fun k=>by rw [h,zBf],zBK]
theorem zSc {r:Poly} (h:∀ k,co r k=co p k-co q k) (x:Rat):ev r x=ev p x-ev q x:=by
 rw [zKP (p:=p) (q:=q.map (· * (-1))) (fun k=>by rw [h,zBf];grind),zBK];grind
def prod:Poly->Poly->Poly
 | [],_=>[]
 | a :: p,q=>addl (q.map (· * a)) (0 :: prod p q)
theorem zCp (q:Poly):∀ (p:Poly) (k:Nat),co (prod p q) k=conv p q k
 | [],k=>by rw [prod,zDt,zAa]
 | a :: p,0=>by rw [prod,zEz,zBf,zEc,zAf];grind
 | a :: p,k+1=>by rw [prod,zEz,zBf,zDe,zAF,zCp q p k];grind
theorem zAY (q:Poly) (x:Rat):∀ p:Poly,ev (prod p q) x=ev p x*ev q x
 | []=>by show (0:Rat)=0*_;grind
 | a :: p=>by rw [prod,zBI,zBK,ev,ev,zAY q x p];grind
theorem ev_conv {r:Poly} (h:∀ k,co r k=conv p q k) (x:Rat):ev r x=ev p x*ev q x:=by
 rw [zDf x (q:=prod p q) fun k=>by rw [h,zCp],zAY]
def sd (m:Rat):Poly->Poly
 | []=>[]
 | [_]=>[]
 | _ :: b :: p=>ev (b :: p) m :: sd m (b :: p)
theorem zTK (m:Rat):∀ p:Poly,(sd m p).length=p.length-1
 | []=>rfl
 | [_]=>rfl
 | _ :: b :: p=>by rw [sd,et,zTK m (b :: p)];simp
theorem sd_ev (m x:Rat):∀ p:Poly,ev p x=ev p m+(x-m)*ev (sd m p) x
 | []=>by show (0:Rat)=0+(x-m)*0;grind
 | [a]=>by show a+x*0=a+m*0+(x-m)*0;grind
 | a :: b :: p=>by
  have h:=sd_ev m x (b :: p);show a+x*ev (b :: p) x=a+m*ev (b :: p) m+(x-m)*(ev (b :: p) m+x*ev (sd m (b :: p)) x);generalize ev (b :: p) x=X at *;grind
theorem zUE (m:Rat):∀ (p:Poly) (n:Nat),p.length=n+2->co (sd m p) n=co p (n+1)
 | [],n,h=>by simp at h
 | [a],n,h=>by simp at h
 | [a,b],n,h=>by
  obtain rfl:n=0:=by simpa using h
  show b+m*0=b;grind
 | a :: b :: c :: p,n,h=>by
  obtain ⟨n,rfl⟩:∃ k,n=k+1:=⟨n-1,by simp at h;omega⟩;rw [sd,zAF,zUE m (b :: c :: p) n (by simpa using h)];rfl
theorem zTB:∀ (n:Nat) {p:Poly},p.length=n+1->co p n≠0->∀ {u v:Rat},u<v->∃ x,u<x/\x<v/\ev p x≠0
 | 0,p,h,A,u,v,B=>by
  obtain ⟨a,rfl⟩:=gk.1 h;refine ⟨(u+v)/2,gR,gR,?_⟩;have:a≠0:=A;show a+_*0≠0;grind
 | n+1,p,h,A,u,v,B=>by
  by_cases e:ev p ((u+v)/2)=0
  . obtain ⟨x,F,C,G⟩:=zTB n (p:=sd ((u+v)/2) p) (by rw [zTK,h];rfl) (by rw [zUE _ _ _ h];exact A) (u:=(u+v)/2) (v:=v) gR;refine ⟨x,gR,C,?_⟩;rw [sd_ev ((u+v)/2) x p,e];have:x-(u+v)/2≠0:=by grind
    grind
  . exact ⟨_,gR,gR,e⟩
theorem zIC (A:Trimd p) (B:p≠[]) {u v:Rat} (e:u<v):∃ x,u<x/\x<v/\ev p x≠0 :=
 have h:p.length=(p.length-1)+1:=by have:=zz B;omega
 zTB _ h (A _ h) e
theorem ev_inj (B:Trimd p) (C:Trimd q) {u v:Rat} (A:u<v) (h:∀ x,u<x->x<v->ev p x=ev q x):p=q:=by
 refine zBW B C fun k => ?_;have hd:∀ k,co (trim (addl p (q.map (· * (-1))))) k=co p k-co q k:=fun k=>by rw [zAU,zEz,zBf];grind
 by_cases e:trim (addl p (q.map (· * (-1))))=[]
 . have:=hd k;rw [e,zAa] at this;grind
 . obtain ⟨x,F,G,H⟩:=zIC (ze _) e A;rw [zSc hd] at H;have:=h x F G;grind
end Go.Proofs.YtjiendlfobjanaaGreatDoor
