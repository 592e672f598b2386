/-
  A part of the proof: DrawR, DrawQ, Sco, Types, Nat64, Spec, RatNum, Spec2, MakeC, Coef, Divs, Hurwitz, Hurwitz2, Height, Height2, Height3, Rever, Ev, Sturm, Has, W1, W2, W3, W4, W5, Shelf, W6, Uint, DivNat, Sint, W7, W8, W9, DivBig, W10, W11, W12, Num.
-/
import Derived.Test.YtjiendlfobjanaaGreatDoorH01
import Derived.Ground.Names2Prog
import Derived.KernelRfl
import Derived.Laws.Externs
import Derived.Lib.ItoaNum
import Derived.Shelf.Bits.Mul64
import Derived.Shelf.LaysM
import Derived.Shelf.Slices.Cells
import Derived.Shelf.Slices.ReverseS
import Derived.Shelf.Slices.SearchI
import Derived.Shelf.Small.Bits
import Derived.Shelf.Small.Strs
import Derived.Shelf.Small.Utf8
import Derived.Shelf.Small.Wraps
import Derived.Shelf.Spec.BitsCarry
import Derived.Shelf.Strconv.Itoa0
import Derived.Shelf.Strconv.Itoa1
import Derived.Shelf.Strconv.Itoa2
import Derived.Shelf.Strings.AsciiSet
import Derived.Shelf.Strings.Builder1
import Derived.Shelf.Strings.Builder2
import Derived.Shelf.Strings.Builder2Cap
import Derived.Shelf.Strings.BuilderCap
import Derived.Shelf.Strings.BuilderF
import Derived.Shelf.Strings.BuilderK
import Derived.Shelf.Strings.Cut
import Derived.Shelf.Strings.OnBuilder
import Derived.Shelf.Strings.Prefix
import Derived.Shelf.Strings.Repeat
import Derived.Shelf.Strings.Runes
import Derived.Shelf.Strings.Search1
import Derived.Shelf.Strings.Search2
import Derived.Shelf.Strings.Shaped
import Derived.Shelf.Strings.Trim
import Derived.Shelf.Unicode.Decode
import Derived.Shelf.Unicode.DecodeAny
import Derived.Shelf.Unicode.DecodeLast
import Derived.Shelf.Unicode.DecodeSlow
import Derived.Test.YtjiendlfobjanaaGreatDoorProg
namespace Go.Proofs.YtjiendlfobjanaaGreatDoor
open Go Go.RowKit
variable {N d i id j n0 t:Nat} {P:Program} {Q:Post} {af:Array Edge} {listed:Array Bool} {ops:List Oper} {pos:String} {r:Option Nat} {ss:List StoreSpec} {ty:TypeId} {u v:Value} {w w0:World} {x y:Operand} {Φs:List (Value→World→Prop)} {δ:List Deferred} {ρ:Env}
section
def reach (ops:List Oper):Nat→Nat→Nat→Bool
 | 0,j,i=>waits ops j i
 | f+1,j,i=>waits ops j i || (List.range ops.length).any fun k=>waits ops j k&&reach ops f k i
def zDI (ops:List Oper) (n0:Nat) (fl:Option Nat):Bool:=(List.range ops.length).all fun j=>decide (j<n0) || (List.range j).all fun i=>if i<n0 then reach ops 6 j i || fl==some i else i+1 != j || waits ops j i
def zLh (ops:List Oper) (n0 f:Nat):Bool:=decide (f<n0)&&match ops[f]? with
 | some ⟨some d,.move (.tmp t),_,_,_,none⟩=>(List.range ops.length).all fun j=>decide (j<n0) || match ops[j]? with
  | some o=>(!(seesL ops o).contains d || reach ops 6 j f) && !(o.dst==some d) && !(o.dst==some t)&&o.guard.isNone
  | none=>true
 | _=>false
theorem zEn {listed:Array Bool} (hcl:∀ k i,listed.getD k false=true→waits ops k i=true→listed.getD i false=true):∀ (f j i:Nat),(∀ y,waits ops j y=true→listed.getD y false=true)→reach ops f j i=true→listed.getD i false=true
 | 0,j,i,h,hr=>h i hr
 | f+1,j,i,h,hr=>by
  simp only [reach,Bool.or_eq_true,List.any_eq_true,Bool.and_eq_true] at hr;rcases hr with hr | ⟨k,-,h1,h2⟩
  · exact h i hr
  · exact zEn hcl f k i (fun y hy=>hcl k y (h k h1) hy) h2
theorem zMQ {fl:Option Nat} (h:zDI ops n0 fl=true) (hj:n0≤j) (hl:j<ops.length) (hi:i<j):(if i<n0 then reach ops 6 j i || fl==some i else i+1 != j || waits ops j i)=true:=by
 simp only [zDI,List.all_eq_true,List.mem_range,Bool.or_eq_true,decide_eq_true_eq] at h;rcases h j hl with h | h
 · omega
 · have:=h i hi;split at this
   · rename_i h1;rw [if_pos h1];simpa using this
   · rename_i h1;rw [if_neg h1];simpa using this
theorem zMB {fl:Option Nat} (h:zDI ops n0 fl=true) {x:Nat} (hj:n0≤j) (hl:j<ops.length) (hx:x<n0) (hfx:fl≠some x) (hcl:∀ k i,listed.getD k false=true→waits ops k i=true→listed.getD i false=true) (hr:∀ y,waits ops j y=true→listed.getD y false=true):listed.getD x false=true:=by
 have h1:=zMQ h hj hl (show x<j by omega);rw [if_pos hx,Bool.or_eq_true,beq_iff_eq] at h1;rcases h1 with h1 | h1
 · exact zEn hcl 6 j x hr h1
 · exact absurd h1 hfx
theorem zJu {fl:Option Nat} (h:zDI ops n0 fl=true) (j:Nat) (hj:n0<j) (hl:j<ops.length):waits ops j (j-1)=true:=by
 have h1:=zMQ h (Nat.le_of_lt hj) hl (show j-1<j by omega);rw [if_neg (by omega),show j-1+1=j by omega] at h1;simpa using h1
theorem zGR {n0:Nat} (htt:∀ j,n0<j→j<ops.length→waits ops j (j-1)=true) (hback:∀ j i,waits ops j i=true→i<j) {Q:Exit→Act→World→Prop}:∀ (os:List Oper) (k:Nat) (fuel:Nat) (listed:Array Bool) (ρ:Env) (a:Act) (w:World) (K:Env→World→Prop),
 ops.drop k=os→n0≤k→listed.size=ops.length→(∀ j,j<k→listed.getD j false=true)→(∀ j,k≤j→listed.getD j false=false)→os.length≤fuel →
 okOps N ops os (dom ρ)=true→(∀ t∈dom ρ,t<N)→Fr N a ρ→zAH P r ops os ρ w K→(∀ a' ρ' w',Fr N a' ρ'→a'.defers=a.defers→K ρ' w'→Q .normal a' w') →
 wpAnyIn (W r) 0 P .any ops.toArray Q fuel listed a w
 | [],k,fuel,listed,ρ,a,w,K,hdr,hk0,hsz,hd,hu,hfu,hok,hdom,hf,hs,hk=>by
  have hkl:ops.length≤k:=by
   have:=congrArg List.length hdr;simp at this;omega
  have hr:Region.ready .any ops.toArray listed=[]:=by
   rw [List.eq_nil_iff_forall_not_mem];intro i hi;obtain ⟨h1,h2,_⟩:=zCS hi;have h3:=hd i (by omega);have:i<listed.size:=by omega
   simp [this] at h1 h3;rw [h1] at h3;cases h3
  have hq:=hk a ρ w hf rfl hs;cases fuel with
  | zero=>exact ⟨hr,hq⟩
  | succ f=>exact ⟨fun _=>hq,fun i hi=>by rw [hr] at hi;cases hi⟩
 | o :: os,k,0,listed,ρ,a,w,K,hdr,hk0,hsz,hd,hu,hfu,hok,hdom,hf,hs,hk=>by simp at hfu
 | o :: os,k,fuel+1,listed,ρ,a,w,K,hdr,hk0,hsz,hd,hu,hfu,hok,hdom,hf,hs,hk=>by
  have hkl:k<ops.length:=by
   have:=congrArg List.length hdr;simp at this;omega
  have hko:ops[k]? = some o:=by
   have:=congrArg (fun l=>l[0]?) hdr;simpa using this
  have hdr':ops.drop (k+1)=os:=by
   have:=congrArg (fun l=>l.drop 1) hdr;simpa [List.drop_drop] using this
  have hrk:=zMC hsz hback hkl hd (hu k (Nat.le_refl _));refine ⟨fun h=>absurd hrk (by rw [h];simp),fun i hi => ?_⟩;obtain ⟨g1,g2,g3⟩:=zCS hi;have hik:i=k:=by
   rcases Nat.lt_trichotomy i k with h | h | h
   · have h3:=hd i h;have:i<listed.size:=by omega
     simp [this] at g1 h3;rw [g1] at h3;cases h3
   · exact h
   · have h3:=g3 (i-1) (htt i (by omega) g2);rw [hu (i-1) (by omega)] at h3;cases h3
  subst hik;simp only [okOps,Bool.and_eq_true,List.all_eq_true,List.contains_iff_mem] at hok;obtain ⟨⟨⟨h1,h2⟩,h3⟩,h4⟩:=hok;have hd2:∀ d,o.dst=some d→d<N:=fun d hd=>by simpa [hd] using h2
  have hdomx:∀ v,dom (ext ρ o.dst v)=(match o.dst with | some d=>d :: dom ρ | none=>dom ρ):=fun v=>by cases o.dst<;>rfl
  have hdom':∀ v,∀ t∈dom (ext ρ o.dst v),t<N:=fun v t ht=>by
   cases hdd:o.dst with
   | none=>rw [hdd] at ht;exact hdom t ht
   | some d =>
    rw [hdd] at ht;simp only [ext,dom,List.map_cons,List.mem_cons] at ht;rcases ht with rfl | ht
    · exact hd2 _ hdd
    · exact hdom t ht
  have next:∀ v w',zAH P r ops os (ext ρ o.dst v) w' K→wpAnyIn (W r) 0 P .any ops.toArray Q fuel (listed.setIfInBounds i true) (a.put o.dst v) w':=fun v w' h' =>
   zGR htt hback os (i+1) fuel _ (ext ρ o.dst v) (a.put o.dst v) w' K hdr' (by omega) (by simp [hsz]) (fun j hj=>by
    by_cases e:i=j
    · subst e;have:i<listed.size:=by omega
      simp [this]
    · rw [getD_set_ne false e];exact hd j (by omega)) (fun j hj=>by rw [getD_set_ne false (by omega)];exact hu j (by omega)) (by simp at hfu;omega)
    (by rw [hdomx];exact h4) (hdom' v) (hf.put o.dst v hd2) h' (fun a' ρ' w'' hf' hde hk'=>hk a' ρ' w'' hf' (by rw [hde];cases o.dst<;>rfl) hk')
  have hw:=hf.wanted (ops:=ops) (o:=o) h1 hdom;have hsel:∀ cs b,o.op≠.select cs b:=fun cs b e=>by rw [e] at h3;cases h3
  have hdef:∀ c,o.op≠.defer c:=fun c e=>by rw [e] at h3;cases h3
  unfold wpOpIn;simp only [List.getElem?_toArray,hko];rw [hw];simp only [zAH] at hs;split
  · rename_i hw';rw [if_pos hw'] at hs;refine (Runs.congr (σ':=a.eval) hsel hdef ?_ hs).wpIn next
    intro x hx;refine (hf.eval x fun t e=>h1 t ?_).symm;subst e;exact List.mem_append_left _ (zCN (by simpa using hx))
  · rename_i hw';rw [if_neg hw'] at hs;exact ⟨fun _ _=>trivial,next _ _ hs⟩
theorem op_move_inv {d:Tmp} {f:Nat} {Q:Exit→Act→World→Prop} {K:Act→World→Prop} {a:Act} (hof:ops[f]? = some ⟨some d,.move x,ty,pos,af,none⟩)
 (h:wpOpIn (W r) 0 P ops.toArray Q f K a w):K (a.put (some d) (a.eval x)) w:=by
 unfold wpOpIn at h;simp only [List.getElem?_toArray,hof,Region.wanted,if_true] at h;have h2:=h.2;rw [zBu (fun c e=>by cases e)] at h2;have e:(execOp a.eval ⟨some d,.move x,ty,pos,af,none⟩).run P w = .ok (.value (a.eval x)) w:=by simp [execOp]
 rw [e] at h2;exact h2
theorem put_swap {a:Act}:∀ {o:Option Tmp},o≠some d→(a.put (some d) u).put o v=(a.put o v).put (some d) u
 | none,_=>rfl
 | some e,h=>by
  have hne:d≠e:=fun x=>h (by rw [x]);show ({ a with tmps:=(a.tmps.setIfInBounds d u).setIfInBounds e v }:Act)={ a with tmps:=(a.tmps.setIfInBounds e v).setIfInBounds d u };rw [Array.setIfInBounds_comm _ _ hne]
theorem zLx {a:Act}:∀ {o:Option Tmp},o≠some t→(a.put o v).eval (.tmp t)=a.eval (.tmp t)
 | none,_=>rfl
 | some e,h=>by
  have hne:e≠t:=fun x=>h (by rw [x]);show (a.tmps.setIfInBounds e v).getD t undef=a.tmps.getD t undef;simp [Array.getD_eq_getD_getElem?,Array.getElem?_setIfInBounds,hne]
theorem put_look {a:Act} (h:y≠.tmp d):(a.put (some d) u).eval y=a.eval y:=by
 cases y with
 | tmp t=>exact zLx fun e=>h (by rw [Option.some.inj e])
 | _=>rfl
theorem tail_runM {f:Nat} (htt:∀ j,n0<j→j<ops.length→waits ops j (j-1)=true) (hback:∀ j i,waits ops j i=true→i<j) (hfn:f<n0) (hof:ops[f]? = some ⟨some d,.move (.tmp t),ty,pos,af,none⟩)
 (hsee:∀ (j:Nat) (o:Oper),n0≤j→ops[j]? = some o→(d∈seesL ops o→reach ops 6 j f=true)∧o.dst≠some d∧o.dst≠some t∧o.guard=none) (hdN:d<N) {Q:Exit→Act→World→Prop}:∀ (os:List Oper) (k:Nat) (fuel:Nat) (listed:Array Bool) (ρ:Env) (a:Act) (w:World) (K:Env→World→Prop),
 ops.drop k=os→n0≤k→listed.size=ops.length→(∀ j i,listed.getD j false=true→waits ops j i=true→listed.getD i false=true)→(∀ j,j<k→j≠f→listed.getD j false=true)→listed.getD f false=false→(∀ j,k≤j→listed.getD j false=false)→os.length<fuel →
 okOps N ops os (dom ρ)=true→(∀ t∈dom ρ,t<N)→Fr N (a.put (some d) (a.eval (.tmp t))) ρ→zAH P r ops os ρ w K→(∀ a' ρ' w',Fr N a' ρ'→a'.defers=a.defers→K ρ' w'→Q .normal a' w') →
 wpAnyIn (W r) 0 P .any ops.toArray Q fuel listed a w:=fun os=>by
 induction os with
 | nil =>
  intro k fuel listed ρ a w K hdr hk0 hsz hcl hd hf0 hu hfu hok hdom hF hs hk;obtain ⟨g,rfl⟩:∃ g,fuel=g+1:=⟨fuel-1,by omega⟩;have hkl:ops.length≤k:=by
   have:=congrArg List.length hdr;simp at this;omega
  exact tail_floatM htt hback hfn hof hdr hk0 hsz hd hf0 hu hfu hok hdom hF hs hk fun i g2 g3 e=>absurd g2 (by omega)
 | cons o os ih =>
  intro k fuel listed ρ a w K hdr hk0 hsz hcl hd hf0 hu hfu hok hdom hF hs hk;obtain ⟨g,rfl⟩:∃ g,fuel=g+1:=⟨fuel-1,by omega⟩;have hko:ops[k]? = some o:=by
   have:=congrArg (fun l=>l[0]?) hdr;simpa using this
  have hdr':ops.drop (k+1)=os:=by
   have:=congrArg (fun l=>l.drop 1) hdr;simpa [List.drop_drop] using this
  refine tail_floatM htt hback hfn hof hdr hk0 hsz hd hf0 hu hfu hok hdom hF hs hk fun i g2 g3 e => ?_;subst e;simp only [okOps,Bool.and_eq_true,List.all_eq_true,List.contains_iff_mem] at hok;obtain ⟨⟨⟨h1,h2⟩,h3⟩,h4⟩:=hok;obtain ⟨s1,s2,s3,s4⟩:=hsee i o hk0 hko;have hds:d ∉ seesL ops o:=fun hm=>by
   have:=zEn hcl 6 i f g3 (s1 hm);rw [hf0] at this;cases this
  have hd2:∀ e,o.dst=some e→e<N:=fun e he=>by simpa [he] using h2
  have hdomx:∀ v,dom (ext ρ o.dst v)=(match o.dst with | some d=>d :: dom ρ | none=>dom ρ):=fun v=>by cases o.dst<;>rfl
  have hdom':∀ v,∀ t∈dom (ext ρ o.dst v),t<N:=fun v t ht=>by
   cases hdd:o.dst with
   | none=>rw [hdd] at ht;exact hdom t ht
   | some d =>
    rw [hdd] at ht;simp only [ext,dom,List.map_cons,List.mem_cons] at ht;rcases ht with rfl | ht
    · exact hd2 _ hdd
    · exact hdom t ht
  have hsel:∀ cs b,o.op≠.select cs b:=fun cs b e=>by rw [e] at h3;cases h3
  have hdef:∀ c,o.op≠.defer c:=fun c e=>by rw [e] at h3;cases h3
  have hil:i<listed.size:=by omega
  unfold wpOpIn;simp only [List.getElem?_toArray,hko];rw [if_pos (by simp [Region.wanted,s4])];simp only [zAH] at hs;rw [if_pos (by simp [zBV,s4])] at hs;refine (Runs.congr (σ':=a.eval) hsel hdef ?_ hs).wpIn fun v w' hs' => ?_
  · intro y hy;have hsee:∀ t,y = .tmp t→t∈seesL ops o:=fun t e=>by
     subst e;exact List.mem_append_left _ (zCN (by simpa using hy))
    rw [← hF.eval y fun t e=>h1 t (hsee t e),put_look fun e=>hds (hsee d e)]
  · refine ih (i+1) g _ (ext ρ o.dst v) (a.put o.dst v) w' K hdr' (by omega) (by simp [hsz]) (fun j y hj hw => ?_) (fun j hj hne => ?_) ?_ (fun j hj => ?_) (by simp at hfu;omega) (by rw [hdomx];exact h4) (hdom' v) ?_ hs' (fun a' ρ' w'' hf' hde hk'=>hk a' ρ' w'' hf' (by rw [hde];cases o.dst<;>rfl) hk')
    · have hy:listed.getD y false=true:=by
       by_cases e:i=j
       · subst e;exact g3 y hw
       · rw [getD_set_ne false e] at hj;exact hcl j y hj hw
      by_cases e:i=y
      · subst e;simp [hil]
      · rw [getD_set_ne false e];exact hy
    · by_cases e:i=j
      · subst e;simp [hil]
      · rw [getD_set_ne false e];exact hd j (by omega) hne
    · rw [getD_set_ne false (by omega)];exact hf0
    · rw [getD_set_ne false (by omega)];exact hu j (by omega)
    · rw [zLx s3,← put_swap s2];exact hF.put o.dst v hd2
where
 tail_floatM {n0 f d t:Nat} {ty:TypeId} {pos:String} {af:Array Edge} (htt:∀ j,n0<j→j<ops.length→waits ops j (j-1)=true) (hback:∀ j i,waits ops j i=true→i<j) (hfn:f<n0) (hof:ops[f]? = some ⟨some d,.move (.tmp t),ty,pos,af,none⟩)
  {Q:Exit→Act→World→Prop} {os:List Oper} {k g:Nat} {listed:Array Bool} {ρ:Env} {a:Act} {w:World} {K:Env→World→Prop}
  (hdr:ops.drop k=os) (hk0:n0≤k) (hsz:listed.size=ops.length) (hd:∀ j,j<k→j≠f→listed.getD j false=true) (hf0:listed.getD f false=false) (hu:∀ j,k≤j→listed.getD j false=false) (hfu:os.length<g+1)
  (hok:okOps N ops os (dom ρ)=true) (hdom:∀ t∈dom ρ,t<N) (hF:Fr N (a.put (some d) (a.eval (.tmp t))) ρ) (hs:zAH P r ops os ρ w K) (hk:∀ a' ρ' w',Fr N a' ρ'→a'.defers=a.defers→K ρ' w'→Q .normal a' w')
  (hgo:∀ i,i<ops.length→(∀ j,waits ops i j=true→listed.getD j false=true)→i=k→wpOpIn (W r) 0 P ops.toArray Q i (wpAnyIn (W r) 0 P .any ops.toArray Q g (listed.setIfInBounds i true)) a w) :
  wpAnyIn (W r) 0 P .any ops.toArray Q (g+1) listed a w:=by
  have hfl:f<ops.length:=(List.getElem?_eq_some_iff.1 hof).1;have hfs:f<listed.size:=by omega
  have hrf:f∈Region.ready .any ops.toArray listed:=by
   refine mem_ready.2 ⟨?_,_,by simpa using hof,fun e he hb => ?_⟩
   · simp only [Array.getD_eq_getD_getElem?,Array.getElem?_eq_getElem hfs,Option.getD_some] at hf0 ⊢;exact hf0
   · have hw:waits ops f e.on=true:=by
      unfold waits;rw [hof];exact List.any_eq_true.2 ⟨e,by simpa using he,by simp [hb]⟩
     have:=hback _ _ hw;exact hd _ (by omega) (by omega)
  refine ⟨fun h=>absurd hrf (by rw [h];simp),fun i hi => ?_⟩;obtain ⟨g1,g2,g3⟩:=zCS hi;have hun:listed.getD i false=false:=by
   have h6:i<listed.size:=by omega
   simp only [Array.getD_eq_getD_getElem?,Array.getElem?_eq_getElem h6,Option.getD_some] at g1 ⊢;exact g1
  rcases Nat.lt_trichotomy i k with h | h | h
  · have hif:i=f:=Classical.byContradiction fun hne=>by rw [hd i h hne] at hun;cases hun
    subst hif;have hgo:Runs P r ⟨some d,.move (.tmp t),ty,pos,af,none⟩ a.eval w (fun v w''=>v=a.eval (.tmp t)∧w''=w):=zF ⟨rfl,rfl⟩;unfold wpOpIn;simp only [List.getElem?_toArray,hof];rw [if_pos (by simp [Region.wanted])];refine hgo.wpIn fun v w'' hvw => ?_;obtain ⟨rfl,rfl⟩:=hvw;refine zGR htt hback os k g _ ρ _ _ K hdr hk0 (by simp [hsz]) (fun j hj => ?_) (fun j hj => ?_) (by omega) hok hdom hF hs (fun a' ρ'' w3 hf' hde hk'=>hk a' ρ'' w3 hf' hde hk')
    · by_cases e:i=j
      · subst e;rw [Array.getD_eq_getD_getElem?,Array.getElem?_setIfInBounds_self_of_lt hfs];rfl
      · rw [getD_set_ne false e];exact hd j hj (Ne.symm e)
    · rw [getD_set_ne false (by omega)];exact hu j hj
  · exact hgo i g2 g3 h
  · have h3:=g3 (i-1) (htt i (by omega) g2);rw [hu (i-1) (by omega)] at h3;cases h3
theorem zKF {n0:Nat} (hok:zAO ops Φs ρ [] N=true) (hback:∀ j i,waits ops j i=true→i<j) {fl:Option Nat} (hfl:∀ f,fl=some f→zLh ops n0 f=true) (htl:zDI ops n0 fl=true) (hn0:n0≤ops.length)
 (hΦ:∀ i,∀ v w w',ExtS [] w0 w→ExtS [] w w'→phi Φs i v w→phi Φs i v w')
 (hob:∀ i o,i<n0→ops[i]? = some o→Obl1 P r ops Φs ρ w0 [] i o) {Q:Exit→Act→World→Prop}
 {K:Env→World→Prop}
 (hgo:∀ listed a w,Inv (ops:=ops) (Φs:=Φs) (ρ:=ρ) (w0:=w0) (ss:=[]) N δ listed a w→(∀ j,j<n0→listed.getD j false=true)→(∀ j,n0≤j→listed.getD j false=false)→∃ ρ',Fr N a ρ'∧okOps N ops (ops.drop n0) (dom ρ')=true∧(∀ t∈dom ρ',t<N)∧zAH P r ops (ops.drop n0) ρ' w K)
 (hq:∀ a' ρ' w',Fr N a' ρ'→a'.defers=δ→K ρ' w'→Q .normal a' w') :
 ∀ (m:Nat) (listed:Array Bool) (a:Act) (w:World),(List.range n0).countP (fun j => !listed.getD j false)=m→(∀ j,n0≤j→listed.getD j false=false)→Inv (ops:=ops) (Φs:=Φs) (ρ:=ρ) (w0:=w0) (ss:=[]) N δ listed a w→∀ fuel,m+(ops.length-n0)≤fuel→wpAnyIn (W r) 0 P .any ops.toArray Q fuel listed a w
 | 0,listed,a,w,hc,hu,inv,fuel,hfu=>by
  have hall:∀ j,j<n0→listed.getD j false=true:=fun j hj=>by
   rw [List.countP_eq_zero] at hc;have:=hc j (List.mem_range.2 hj);simpa using this
  obtain ⟨ρ',q1,q2,q3,q4⟩:=hgo listed a w inv hall hu;exact zGR (zJu htl) hback (ops.drop n0) n0 fuel listed ρ' a w K rfl (Nat.le_refl _) inv.size hall hu (by simp;omega) q2 q3 q1 q4 (fun a' ρ'' w' h1 h2 h3=>hq a' ρ'' w' h1 (h2.trans inv.defers) h3)
 | m+1,listed,a,w,hc,hu,inv,0,hfu=>by omega
 | m+1,listed,a,w,hc,hu,inv,fuel+1,hfu=>by
  obtain ⟨x,hx1,hx2⟩:∃ x,x<n0∧listed.getD x false=false:=by
   have:0<(List.range n0).countP (fun j => !listed.getD j false):=by omega
   obtain ⟨x,h1,h2⟩:=List.countP_pos_iff.1 this;exact ⟨x,List.mem_range.1 h1,by simpa using h2⟩
  by_cases hfx:∀ y,y<n0→listed.getD y false=false→fl=some y
  · have hfx1:=hfx x hx1 hx2;have hfo:=hfl x hfx1;unfold zLh at hfo;simp only [Bool.and_eq_true,decide_eq_true_eq] at hfo;obtain ⟨-,hm⟩:=hfo;cases hoa:ops[x]? with
    | none=>rw [hoa] at hm;cases hm
    | some oa =>
    rw [hoa] at hm;obtain ⟨ad,aop,aty,apos,aaf,ag⟩:=oa;cases ad with
    | none=>cases hm
    | some d =>
    cases aop with
    | move tx =>
     cases tx with
     | tmp t =>
      cases ag with
      | some g=>cases hm
      | none =>
      simp only [List.all_eq_true,List.mem_range,Bool.or_eq_true,decide_eq_true_eq] at hm;have hxs:x<listed.size:=by rw [inv.size];omega
      have hothers:∀ j,j<n0→j≠x→listed.getD j false=true:=fun j hj hne=>Classical.byContradiction fun hn=>by
       have h8:=hfx j hj (by simpa using hn);rw [hfx1] at h8;exact hne (Option.some.inj h8).symm
      have hxr:x∈Region.ready .any ops.toArray listed:=by
       refine mem_ready.2 ⟨?_,_,by simpa using hoa,fun e he hb => ?_⟩
       · simp only [Array.getD_eq_getD_getElem?,Array.getElem?_eq_getElem hxs,Option.getD_some] at hx2 ⊢;exact hx2
       · have hw:waits ops x e.on=true:=by
          unfold waits;rw [hoa];exact List.any_eq_true.2 ⟨e,by simpa using he,by simp [hb]⟩
         have:=hback _ _ hw;exact hothers _ (by omega) (by omega)
      have hst:=op_move_inv hoa (zIT hok hΦ (fun s hs=>by cases hs) (fun s hs=>by cases hs) (by simp) inv (fun o ho=>hob x o hx1 ho) hxr (Q:=Q) (K:=fun a' w'=>Inv (ops:=ops) (Φs:=Φs) (ρ:=ρ) (w0:=w0) (ss:=[]) N δ (listed.setIfInBounds x true) a' w') (fun _ _ h=>h));obtain ⟨ρ',p1,p2,p3,p4⟩:=hgo _ _ _ hst (fun j hj=>by
       by_cases e:x=j
       · subst e;rw [Array.getD_eq_getD_getElem?,Array.getElem?_setIfInBounds_self_of_lt hxs];rfl
       · rw [getD_set_ne false e];exact hothers j hj (Ne.symm e)) (fun j hj=>by rw [getD_set_ne false (by omega)];exact hu j hj)
      have hdN:d<N:=by
       simp only [zAO,Bool.and_eq_true,List.all_eq_true,decide_eq_true_eq,List.mem_range] at hok;have:=hok.2 x (by omega);rw [hoa] at this;simp only [Bool.and_eq_true,decide_eq_true_eq] at this;exact this.1.1.1
      refine tail_runM (zJu htl) hback hx1 hoa (fun j o hj ho => ?_) hdN (ops.drop n0) n0 (fuel+1) listed ρ' a w K rfl (Nat.le_refl _) inv.size inv.closed hothers hx2 hu (by simp;omega) p2 p3 p1 p4 (fun a' ρ'' w' h1 h2 h3=>hq a' ρ'' w' h1 (h2.trans inv.defers) h3);have hjl:=(List.getElem?_eq_some_iff.1 ho).1;rcases hm j hjl with h | h
      · omega
      · rw [ho] at h;simp only [Bool.and_eq_true,Bool.or_eq_true,Bool.not_eq_true',Option.isNone_iff_eq_none] at h;obtain ⟨⟨⟨h1,h2⟩,h3⟩,h4⟩:=h;refine ⟨fun hmem => ?_,fun e => ?_,fun e => ?_,h4⟩
        · rcases h1 with h1 | h1
          · rw [List.contains_iff_mem.2 hmem] at h1;cases h1
          · exact h1
        · rw [e] at h2;simp at h2
        · rw [e] at h3;simp at h3
     | _=>cases hm
    | _=>cases hm
  · simp only [Classical.not_forall] at hfx;obtain ⟨x,hx1,hx2,hfx⟩:=hfx;refine ⟨fun h => ?_,fun i hi => ?_⟩
    · have:=zEz inv.size hback h x (by omega);rw [hx2] at this;cases this
    · obtain ⟨g1,g2,g3⟩:=zCS hi;rcases Nat.lt_or_ge i n0 with hin | hge
      rotate_left
      · exact absurd (zMB htl hge g2 hx1 hfx inv.closed g3) (by rw [hx2];exact Bool.false_ne_true)
      have hlt:i<listed.size:=by rw [inv.size];exact g2
      have hunf:listed.getD i false=false:=by simp [hlt] at g1 ⊢;exact g1
      refine zIT hok hΦ (fun s hs=>by cases hs) (fun s hs=>by cases hs) (by simp) inv (fun o ho=>hob i o hin ho) hi fun a' w' inv'=>zKF hok hback hfl htl hn0 hΦ hob hgo hq m _ a' w' ?_ (fun j hj=>by rw [getD_set_ne false (by omega)];exact hu j hj) inv' fuel (by omega);have key:∀ (l:List Nat),l.Nodup→(i∈l→l.countP (fun j => !(listed.setIfInBounds i true).getD j false)+1=l.countP (fun j => !listed.getD j false))∧(i ∉ l→l.countP (fun j => !(listed.setIfInBounds i true).getD j false)=l.countP (fun j => !listed.getD j false)):=by
       intro l
       induction l with
       | nil=>exact fun _=>⟨fun h=>absurd h (by simp),fun _=>rfl⟩
       | cons y l ih =>
        intro hnd;rw [List.nodup_cons] at hnd;obtain ⟨i1,i2⟩:=ih hnd.2;refine ⟨fun hm => ?_,fun hm => ?_⟩
        · by_cases hy:i=y
          · subst hy;have h1:(listed.setIfInBounds i true).getD i false=true:=by simp [hlt]
            rw [List.countP_cons,List.countP_cons,h1,hunf,i2 hnd.1];simp
          · have hm':i∈l:=by
             rcases List.mem_cons.1 hm with h | h
             · exact absurd h hy
             · exact h
            rw [List.countP_cons,List.countP_cons,getD_set_ne false hy];have:=i1 hm';omega
        · have hy:i≠y:=fun e=>hm (by simp [e]);rw [List.countP_cons,List.countP_cons,getD_set_ne false hy,i2 (fun h=>hm (by simp [h]))]
      have:=(key _ List.nodup_range).1 (List.mem_range.2 hin);omega
theorem zJO (init tail:List Oper) (pl:List Entry) (hin:ops=init++tail) (hm:P.follows .mixedOrders=true) (hok:zAO ops (ops.map fun _ _ _=>True) ρ [] N=true) (hbk:zBX ops=true)
 {fl:Option Nat} (hfl:∀ f,fl=some f→zLh ops init.length f=true) (htl:zDI ops init.length fl=true) (hoks:okOps N ops tail (domX init (dom ρ))=true) (hpl:zBS ops 0 init=some pl)
 (h:∀ K:List (Value→World→Prop)→Prop,(∀ Φs,(∀ w',Ext w0 w'→zBA Φs.reverse init ρ w' (fun ρ'=>zAH P r ops tail ρ' w' (fun ρ'' w''=>Q .normal ρ'' δ w'')))→K Φs)→dRunP P r [] ρ w0 init pl [] K):WPE P r N (.region id ops.toArray true) Q δ ρ w0:=fun a hf hd=>by
 have hback:=zEg hbk;have hrun:=zDf (P:=P) (r:=r) (S:=[]) (ρ:=ρ) (w0:=w0) (K:=fun Ψ=>∀ w',Ext w0 w'→zBA Ψ.reverse init ρ w' (fun ρ'=>zAH P r ops tail ρ' w' (fun ρ'' w''=>Q .normal ρ'' δ w''))) hback init pl 0 [] rfl hpl (h _ (fun Φs hΦ=>hΦ));simp only [List.reverse_reverse,List.reverse_nil] at hrun;obtain ⟨Ψs,hl,hK,hmo,hob⟩:=zFA init 0 [] rfl hrun;rw [List.nil_append] at hK;simp only [List.nil_append,Nat.zero_add] at hob;have hlen:ops.length=init.length+tail.length:=by rw [hin];simp
 have hgi:∀ i,i<init.length→ops[i]? = init[i]? := fun i hi=>by rw [hin,List.getElem?_append_left hi]
 have hok2:zAO ops (Ψs++List.replicate tail.length (fun _ _=>True)) ρ [] N=true:=by
  simp only [zAO,List.length_map,List.length_append,List.length_replicate,hl,hlen] at hok ⊢;exact hok
 have hmo2:Monos [] w0 (Ψs++List.replicate tail.length (fun _ _=>True)):=by
  have h0:∀ n,Monos [] w0 (List.replicate n (fun _ _=>True)):=fun n=>by
   induction n with
   | zero=>trivial
   | succ n ih=>exact ⟨fun _ _ _ _ _ h=>h,ih⟩
  have h1:∀ l:List (Value→World→Prop),Monos [] w0 l→Monos [] w0 (l++List.replicate tail.length (fun _ _=>True)):=fun l=>by
   induction l with
   | nil=>exact fun _=>h0 _
   | cons u l ih=>exact fun h=>⟨h.1,ih h.2⟩
  exact h1 Ψs hmo
 have hdrawn:ExtS [] w0 { w0 with drawn:=w0.drawn+1 }:=(Ext.drawn _).toS _;have hok':=hok;simp only [zAO,Bool.and_eq_true,decide_eq_true_eq] at hok';obtain ⟨⟨⟨⟨⟨hD,hlen0⟩,hnd⟩,_⟩,_⟩,hops⟩:=hok';have hndi:(init.filterMap (·.dst)).Nodup:=by
  rw [hin,List.filterMap_append] at hnd;exact (List.nodup_append.1 hnd).1
 refine wpIn_region_any hm ?_;refine zKF (n0:=init.length) (Q:=lift N Q) (δ:=δ) (K:=fun ρ'' w''=>Q .normal ρ'' δ w'') hok2 hback hfl htl (by omega) (zDF hmo2) (fun i o hi ho => ?_) ?_ ?_ _ (Array.replicate ops.toArray.size false) a _ rfl (fun j _=>getD_replicate_false' _ _) ?_ _ ?_
 · intro σ w hE hk _;have h1:=hob i o (by rw [← hgi i hi];exact ho) σ w hE.toExt (zCB (fun j v hw hp=>by
    have hji:=hback _ _ hw;have hjl:j<Ψs.length:=by omega
    unfold phi at hp ⊢;simpa [List.getD_eq_getElem?_getD,List.getElem?_take,hji,List.getElem?_append_left hjl] using hp) hk)
   have hphi:(Ψs.getD i fun _ _=>True)=phi (Ψs++List.replicate tail.length (fun _ _=>True)) i:=by
    have hil:i<Ψs.length:=by omega
    unfold phi;simp [List.getD_eq_getElem?_getD,List.getElem?_append_left hil]
   rw [hphi] at h1;cases hg:o.guard with
   | none=>rw [hg] at h1;simp only [Obl0,List.find?_nil] at h1 ⊢;exact h1
   | some gw=>obtain ⟨j,want⟩:=gw;rw [hg] at h1;simp only [Obl0,List.find?_nil] at h1 ⊢;exact h1
 · intro listed a' w' inv hall hun;rw [show ops.drop init.length=tail by rw [hin];simp];have hex:∀ (i:Nat),∃ v:Value,(∀ (Ψ:Value→World→Prop),Ψs[i]? = some Ψ→Ψ v w')∧∀ (o:Oper) (d:Nat),init[i]? = some o→o.dst=some d→a'.tmps.getD d undef=v:=fun i=>by
    cases ho:init[i]? with
    | none =>
     have:Ψs[i]? = none:=by rw [List.getElem?_eq_none_iff] at ho ⊢;omega
     exact ⟨undef,(fun Ψ h=>by rw [this] at h;cases h),(fun o d h=>by cases h)⟩
    | some o =>
     have hil:=(List.getElem?_eq_some_iff.1 ho).1;obtain ⟨v,hv,he⟩:=inv.vals i o (by rw [hgi i hil];exact ho) (hall i hil) rfl;refine ⟨v,fun Ψ h => ?_,fun o' d ho' hd => ?_⟩
     · have hil2:i<Ψs.length:=by omega
       have:phi (Ψs++List.replicate tail.length (fun _ _=>True)) i=Ψ:=by
        unfold phi;simp [List.getD_eq_getElem?_getD,List.getElem?_append_left hil2,h]
       rw [← this];exact hv
     · cases ho';exact he d hd
   obtain ⟨vs,hvs⟩:=Classical.axiomOfChoice hex;obtain ⟨ρ'',hk,he⟩:=zDj init Ψs ρ w' _ hl (hK w' inv.ext.toExt) vs (fun k Ψ h=>(hvs k).1 Ψ h);obtain ⟨l1,l2,l3⟩:=zCa vs init 0 ρ hndi;have hdm:dom ρ''=domX init (dom ρ):=by rw [he];exact zEj vs init 0 ρ
   have hlt:∀ t∈dom ρ'',t<N:=fun t ht=>by
    rw [he] at ht;rcases l1 t ht with h | ⟨k,o,hk,ho⟩
    · have:=List.all_eq_true.1 hD t h;simpa using this
    · have hkl:=(List.getElem?_eq_some_iff.1 hk).1;have:=List.all_eq_true.1 hops k (List.mem_range.2 (by omega));rw [hgi k hkl,hk] at this;simp only [Bool.and_eq_true,ho,decide_eq_true_eq] at this;exact this.1.1.1
   refine ⟨ρ'',?_,by rw [hdm];exact hoks,hlt,hk⟩;refine ⟨inv.tmps,fun t ht => ?_⟩;rw [he] at ht ⊢;by_cases hw:∃ (k:Nat) (o:Oper),init[k]? = some o∧o.dst=some t
   · obtain ⟨k,o,hk,ho⟩:=hw;rw [l2 k o t hk ho,Nat.zero_add];exact (hvs k).2 o t hk ho
   · have hno:∀ (k:Nat) (o:Oper),init[k]? = some o→o.dst≠some t:=fun k o hk ho=>hw ⟨k,o,hk,ho⟩;rw [l3 t hno];rcases l1 t ht with h | ⟨k,o,hk,ho⟩
     · refine inv.base t h (fun k o hk hlk => ?_);rcases Nat.lt_or_ge k init.length with h2 | h2
       · rw [hgi k h2] at hk;exact hno k o hk
       · rw [hun k h2] at hlk;cases hlk
     · exact absurd ho (hno k o hk)
 · intro a2 ρ2 w2 hf2 hd2 hq;exact ⟨ρ2,hf2,by rw [hd2];exact hq⟩
 · refine ⟨by simp,fun j i h => ?_,hdrawn,hd,hf.size,fun i o _ h => ?_,fun t ht _=>hf.at_ t ht,fun s hs=>by cases hs⟩
   · rw [getD_replicate_false'] at h;cases h
   · rw [getD_replicate_false'] at h;cases h
 · have:(List.range init.length).countP (fun j => !(Array.replicate ops.toArray.size false).getD j false)≤init.length:=Nat.le_trans List.countP_le_length (by simp);simp only [List.size_toArray] at this ⊢;omega
theorem zEy (n0:Nat) (pl:List Entry) (hm:P.follows .mixedOrders=true) (hok:zAO ops (ops.map fun _ _ _=>True) ρ [] N=true) (hbk:zBX ops=true)
 (htl:zDI ops (ops.take n0).length none=true) (hoks:okOps N ops (ops.drop n0) (domX (ops.take n0) (dom ρ))=true) (hpl:zBS ops 0 (ops.take n0)=some pl)
 (h:∀ K:List (Value→World→Prop)→Prop,(∀ Φs,(∀ w',Ext w0 w'→zBA Φs.reverse (ops.take n0) ρ w' (fun ρ'=>zAH P r ops (ops.drop n0) ρ' w' (fun ρ'' w''=>Q .normal ρ'' δ w'')))→K Φs)→dRunP P r [] ρ w0 (ops.take n0) pl [] K):WPE P r N (.region id ops.toArray true) Q δ ρ w0 :=
 zJO (ops.take n0) (ops.drop n0) pl (List.take_append_drop n0 ops).symm hm hok hbk (fun _ e=>by cases e) htl hoks hpl h
theorem wpe_tailM (f n0:Nat) (pl:List Entry) (hm:P.follows .mixedOrders=true) (hok:zAO ops (ops.map fun _ _ _=>True) ρ [] N=true) (hbk:zBX ops=true)
 (hfo:zLh ops (ops.take n0).length f=true) (htl:zDI ops (ops.take n0).length (some f)=true) (hoks:okOps N ops (ops.drop n0) (domX (ops.take n0) (dom ρ))=true) (hpl:zBS ops 0 (ops.take n0)=some pl)
 (h:∀ K:List (Value→World→Prop)→Prop,(∀ Φs,(∀ w',Ext w0 w'→zBA Φs.reverse (ops.take n0) ρ w' (fun ρ'=>zAH P r ops (ops.drop n0) ρ' w' (fun ρ'' w''=>Q .normal ρ'' δ w'')))→K Φs)→dRunP P r [] ρ w0 (ops.take n0) pl [] K):WPE P r N (.region id ops.toArray true) Q δ ρ w0 :=
 zJO (ops.take n0) (ops.drop n0) pl (List.take_append_drop n0 ops).symm hm hok hbk (fun g e=>by cases e;exact hfo) htl hoks hpl h
end
section
theorem zIf {n0:Nat} {fl:List Nat} {df:Defs} (hdf:zCe ops df) (hok:zAO ops Φs ρ [] N=true) (hback:∀ j i,waits ops j i=true→i<j) (htl:zDI ops n0 none=true) (hn0:n0≤ops.length)
 (hΦ:∀ i,∀ v w w',ExtS [] w0 w→ExtS [] w w'→phi Φs i v w→phi Φs i v w')
 (hob:∀ i o,i<n0→ops[i]? = some o→Obl1 P r ops Φs ρ w0 [] i o)
 (hfr:∀ k,k<n0→zCV fl df k→∀ o,ops[k]? = some o→o.guard=none∧∀ σ w,ExtS [] w0 w→KnowL ops Φs ρ w k σ (seesL ops o)→Runs P r o (lookσ σ) w (fun v w'=>Ext w w'∧phi Φs k v w'∧Xtra fl df k σ w w' v))
 {Q:Exit→Act→World→Prop}
 (hfin:∀ fuel listed a w,Inv (ops:=ops) (Φs:=Φs) (ρ:=ρ) (w0:=w0) (ss:=[]) N δ listed a w→Sep ops fl df listed a w→(∀ j,j<n0→listed.getD j false=true)→(∀ j,n0≤j→listed.getD j false=false)→ops.length-n0≤fuel→wpAnyIn (W r) 0 P .any ops.toArray Q fuel listed a w) :
 ∀ (m:Nat) (listed:Array Bool) (a:Act) (w:World),(List.range n0).countP (fun j => !listed.getD j false)=m→(∀ j,n0≤j→listed.getD j false=false)→Inv (ops:=ops) (Φs:=Φs) (ρ:=ρ) (w0:=w0) (ss:=[]) N δ listed a w→Sep ops fl df listed a w→∀ fuel,m+(ops.length-n0)≤fuel→wpAnyIn (W r) 0 P .any ops.toArray Q fuel listed a w
 | 0,listed,a,w,hc,hu,inv,sep,fuel,hfu=>by
  refine hfin fuel listed a w inv sep (fun j hj => ?_) hu (by omega);rw [List.countP_eq_zero] at hc;have:=hc j (List.mem_range.2 hj);simpa using this
 | m+1,listed,a,w,hc,hu,inv,sep,0,hfu=>by omega
 | m+1,listed,a,w,hc,hu,inv,sep,fuel+1,hfu=>by
  obtain ⟨x,hx1,hx2⟩:∃ x,x<n0∧listed.getD x false=false:=by
   have:0<(List.range n0).countP (fun j => !listed.getD j false):=by omega
   obtain ⟨x,h1,h2⟩:=List.countP_pos_iff.1 this;exact ⟨x,List.mem_range.1 h1,by simpa using h2⟩
  refine ⟨fun h => ?_,fun i hi => ?_⟩
  · have:=zEz inv.size hback h x (by omega);rw [hx2] at this;cases this
  · obtain ⟨g1,g2,g3⟩:=zCS hi;have hin:i<n0:=by
     rcases Nat.lt_or_ge i n0 with h | h
     · exact h
     · have:listed.getD x false=true:=zMB htl h g2 hx1 (by simp) inv.closed g3;rw [hx2] at this;cases this
    have hlt:i<listed.size:=by rw [inv.size];exact g2
    have hunf:listed.getD i false=false:=by simp [hlt] at g1 ⊢;exact g1
    refine zMM hdf hok hΦ inv sep (fun o ho=>hob i o hin ho) (fun hf o ho=>hfr i hin hf o ho) hi fun a' w' inv' sep'=>zIf hdf hok hback htl hn0 hΦ hob hfr hfin m _ a' w' ?_ (fun j hj=>by rw [getD_set_ne false (by omega)];exact hu j hj) inv' sep' fuel (by omega);have key:∀ (l:List Nat),l.Nodup→(i∈l→l.countP (fun j => !(listed.setIfInBounds i true).getD j false)+1=l.countP (fun j => !listed.getD j false))∧(i ∉ l→l.countP (fun j => !(listed.setIfInBounds i true).getD j false)=l.countP (fun j => !listed.getD j false)):=by
     intro l
     induction l with
     | nil=>exact fun _=>⟨fun h=>absurd h (by simp),fun _=>rfl⟩
     | cons y l ih =>
      intro hnd;rw [List.nodup_cons] at hnd;obtain ⟨i1,i2⟩:=ih hnd.2;refine ⟨fun hm => ?_,fun hm => ?_⟩
      · by_cases hy:i=y
        · subst hy;have h1:(listed.setIfInBounds i true).getD i false=true:=by simp [hlt]
          rw [List.countP_cons,List.countP_cons,h1,hunf,i2 hnd.1];simp
        · have hm':i∈l:=by
           rcases List.mem_cons.1 hm with h | h
           · exact absurd h hy
           · exact h
          rw [List.countP_cons,List.countP_cons,getD_set_ne false hy];have:=i1 hm';omega
      · have hy:i≠y:=fun e=>hm (by simp [e]);rw [List.countP_cons,List.countP_cons,getD_set_ne false hy,i2 (fun h=>hm (by simp [h]))]
    have:=(key _ List.nodup_range).1 (List.mem_range.2 hin);omega
theorem wpe_tailXR (fl:List Nat) (df:Defs) (init tail:List Oper) (pl:List Entry) (hin:ops=init++tail) (hm:P.follows .mixedOrders=true) (hok:zAO ops (ops.map fun _ _ _=>True) ρ [] N=true) (hbk:zBX ops=true)
 (htl:zDI ops init.length none=true) (hoks:okOps N ops tail (domX init (dom ρ))=true) (hpl:zBS ops 0 init=some pl) (hfl:∀ i,zCV fl df i→i<init.length) (hdf:zCe ops df)
 (h:∀ K:List (Value→World→Prop)→Prop,(∀ Φs,(∀ w',Ext w0 w'→zBA Φs.reverse init ρ w' (fun ρ'=>SepE ops fl df ρ'→zAH P r ops tail ρ' w' (fun ρ'' w''=>Q .normal ρ'' δ w'')))→K Φs)→dRunX P r ρ w0 fl df 0 init pl [] K):WPE P r N (.region id ops.toArray true) Q δ ρ w0:=fun a hf hd=>by
 have hback:=zEg hbk;have hX:=zLA init pl 0 [] (h (fun Φs=>∀ w',Ext w0 w'→zBA Φs.reverse init ρ w' (fun ρ'=>SepE ops fl df ρ'→zAH P r ops tail ρ' w' (fun ρ'' w''=>Q .normal ρ'' δ w''))) (fun Φs hΦ=>hΦ));have hrun:=zDf (P:=P) (r:=r) (S:=[]) (ρ:=ρ) (w0:=w0) hback init pl 0 [] rfl hpl hX;simp only [List.reverse_nil] at hrun;obtain ⟨Ψs,hl,hK,hmo,hob⟩:=zFA init 0 [] rfl hrun;rw [List.nil_append] at hK;obtain ⟨hK,-,hfa⟩:=hK;rw [List.reverse_reverse] at hK;simp only [List.nil_append,Nat.zero_add] at hob;have hlen:ops.length=init.length+tail.length:=by rw [hin];simp
 have hgi:∀ i,i<init.length→ops[i]? = init[i]? := fun i hi=>by rw [hin,List.getElem?_append_left hi]
 have hok2:zAO ops (Ψs++List.replicate tail.length (fun _ _=>True)) ρ [] N=true:=by
  simp only [zAO,List.length_map,List.length_append,List.length_replicate,hl,hlen] at hok ⊢;exact hok
 have hmo2:Monos [] w0 (Ψs++List.replicate tail.length (fun _ _=>True)):=by
  have h0:∀ n,Monos [] w0 (List.replicate n (fun _ _=>True)):=fun n=>by
   induction n with
   | zero=>trivial
   | succ n ih=>exact ⟨fun _ _ _ _ _ h=>h,ih⟩
  have h1:∀ l:List (Value→World→Prop),Monos [] w0 l→Monos [] w0 (l++List.replicate tail.length (fun _ _=>True)):=fun l=>by
   induction l with
   | nil=>exact fun _=>h0 _
   | cons u l ih=>exact fun h=>⟨h.1,ih h.2⟩
  exact h1 Ψs hmo
 have hdrawn:ExtS [] w0 { w0 with drawn:=w0.drawn+1 }:=(Ext.drawn _).toS _;have hok':=hok;simp only [zAO,Bool.and_eq_true,decide_eq_true_eq] at hok';obtain ⟨⟨⟨⟨⟨hD,hlen0⟩,hnd⟩,_⟩,_⟩,hops⟩:=hok';have hndi:(init.filterMap (·.dst)).Nodup:=by
  rw [hin,List.filterMap_append] at hnd;exact (List.nodup_append.1 hnd).1
 have hphi:∀ i,i<init.length→(Ψs.getD i fun _ _=>True)=phi (Ψs++List.replicate tail.length (fun _ _=>True)) i:=fun i hi=>by
  have hil:i<Ψs.length:=by omega
  unfold phi;simp [List.getD_eq_getElem?_getD,List.getElem?_append_left hil]
 have himp:∀ i,i<init.length→∀ {σ:Nat→Value} {w:World} {ts:List Nat},KnowL ops (Ψs++List.replicate tail.length (fun _ _=>True)) ρ w i σ ts→KnowL ops (Ψs.take i) ρ w i σ ts:=fun i hi σ w ts hk=>zCB (fun j v hw hp=>by
  have hji:=hback _ _ hw;have hjl:j<Ψs.length:=by omega
  unfold phi at hp ⊢;simpa [List.getD_eq_getElem?_getD,List.getElem?_take,hji,List.getElem?_append_left hjl] using hp) hk
 refine wpIn_region_any hm ?_;refine zIf (n0:=init.length) (fl:=fl) (df:=df) (Q:=lift N Q) (δ:=δ) hdf hok2 hback htl (by omega) (zDF hmo2) (fun i o hi ho => ?_) (fun k hk hkf o ho => ?_) ?_ _ (Array.replicate ops.toArray.size false) a _ rfl (fun j _=>getD_replicate_false' _ _) ?_ ?_ _ ?_
 · intro σ w hE hk _;have h1:=hob i o (by rw [← hgi i hi];exact ho) σ w hE.toExt (himp i hi hk);rw [hphi i hi] at h1;cases hg:o.guard with
   | none=>rw [hg] at h1;simp only [Obl0,List.find?_nil] at h1 ⊢;exact h1
   | some gw=>obtain ⟨j,want⟩:=gw;rw [hg] at h1;simp only [Obl0,List.find?_nil] at h1 ⊢;exact h1
 · have ho2:init[k]? = some o:=by rw [← hgi k hk];exact ho
   have hpll:pl.length=init.length:=by
    have h0:∀ (os:List Oper) (es:List Entry) (i:Nat),zBS ops i os=some es→es.length=os.length:=fun os=>by
     induction os with
     | nil=>intro es i h;cases h;rfl
     | cons o os ih =>
      intro es i h;unfold zBS at h;cases h1:zCI ops i o with
      | none=>rw [h1] at h;simp at h
      | some e =>
       cases h2:zBS ops (i+1) os with
       | none=>rw [h1,h2] at h;simp at h
       | some es'=>rw [h1,h2] at h;simp at h;subst h;simp [ih es' (i+1) h2]
    exact h0 init pl 0 hpl
   obtain ⟨e,he⟩:∃ e,pl[k]? = some e:=⟨pl[k],List.getElem?_eq_getElem (by omega)⟩;have hent:=zBt init pl 0 hpl k o e ho2 he;rw [Nat.zero_add] at hent;obtain ⟨f1,f2⟩:=hfa k o e ho2 he (by rw [Nat.zero_add];exact hkf);rw [Nat.zero_add] at f2;have hgn:o.guard=none∧e=(sight ops k (seesL ops o),none):=by
    unfold zCI at hent;cases hg:o.guard with
    | none=>rw [hg] at hent;exact ⟨rfl,(Option.some.inj hent).symm⟩
    | some gw =>
     obtain ⟨j,want⟩:=gw;rw [hg] at hent;simp only at hent;cases hj:(ops[j]?).bind (·.dst) with
     | none=>rw [hj] at hent;cases hent
     | some t=>rw [hj] at hent;have:=Option.some.inj hent;rw [← this] at f1;cases f1
   refine ⟨hgn.1,fun σ w hE hkn => ?_⟩;have h1:=himp k hk hkn;have e1:Ψs.reverse.drop (init.length-k)=(Ψs.take k).reverse:=by
    rw [List.drop_reverse,hl,show init.length-(init.length-k)=k from by omega]
   have e2:Ψs.reverse.getD (init.length-1-k) (fun _ _=>True)=Ψs.getD k (fun _ _=>True):=by
    rw [List.getD_eq_getElem?_getD,List.getD_eq_getElem?_getD,List.getElem?_reverse (by omega),hl];congr 2;omega
   have h2:=f2 σ w hE.toExt (by
    rw [e1,hgn.2];exact zDU (Φs:=(Ψs.take k).reverse) (by simp;omega) (by rw [List.reverse_reverse];exact h1) (fun j hj=>hback k j hj))
   rw [e2,hphi k hk] at h2;exact h2
 · intro fuel listed a' w' inv sep hall hun hfu;have hex:∀ (i:Nat),∃ v:Value,(∀ (Ψ:Value→World→Prop),Ψs[i]? = some Ψ→Ψ v w')∧∀ (o:Oper) (d:Nat),init[i]? = some o→o.dst=some d→a'.tmps.getD d undef=v:=fun i=>by
    cases ho:init[i]? with
    | none =>
     have:Ψs[i]? = none:=by rw [List.getElem?_eq_none_iff] at ho ⊢;omega
     exact ⟨undef,(fun Ψ h=>by rw [this] at h;cases h),(fun o d h=>by cases h)⟩
    | some o =>
     have hil:=(List.getElem?_eq_some_iff.1 ho).1;obtain ⟨v,hv,he⟩:=inv.vals i o (by rw [hgi i hil];exact ho) (hall i hil) rfl;refine ⟨v,fun Ψ h => ?_,fun o' d ho' hd => ?_⟩
     · have hil2:i<Ψs.length:=by omega
       have:phi (Ψs++List.replicate tail.length (fun _ _=>True)) i=Ψ:=by
        unfold phi;simp [List.getD_eq_getElem?_getD,List.getElem?_append_left hil2,h]
       rw [← this];exact hv
     · cases ho';exact he d hd
   obtain ⟨vs,hvs⟩:=Classical.axiomOfChoice hex;obtain ⟨ρ'',hk,he⟩:=zDj init Ψs ρ w' _ hl (hK w' inv.ext.toExt) vs (fun k Ψ h=>(hvs k).1 Ψ h);obtain ⟨l1,l2,l3⟩:=zCa vs init 0 ρ hndi;have hdm:dom ρ''=domX init (dom ρ):=by rw [he];exact zEj vs init 0 ρ
   have hlt:∀ t∈dom ρ'',t<N:=fun t ht=>by
    rw [he] at ht;rcases l1 t ht with h | ⟨k,o,hk,ho⟩
    · have:=List.all_eq_true.1 hD t h;simpa using this
    · have hkl:=(List.getElem?_eq_some_iff.1 hk).1;have:=List.all_eq_true.1 hops k (List.mem_range.2 (by omega));rw [hgi k hkl,hk] at this;simp only [Bool.and_eq_true,ho,decide_eq_true_eq] at this;exact this.1.1.1
   have hsl:∀ k d,k<init.length→dstOf ops k=some d→look1 ρ'' d=a'.tmps.getD d undef:=fun k d hk hd=>by
    unfold dstOf at hd;rw [hgi k hk] at hd;cases ho:init[k]? with
    | none=>rw [ho] at hd;cases hd
    | some o =>
     rw [ho] at hd;rw [he,l2 k o d ho hd,Nat.zero_add];exact ((hvs k).2 o d ho hd).symm
   have hk:=hk ⟨fun i hi j hj hij d e hd hdj b hb=>by
    have hi':=hfl i (.inl hi);have hj':=hfl j (.inl hj);rw [hsl i d hi' hd] at hb;rw [hsl j e hj' hdj];exact sep.2.1 i hi j hj hij (hall i hi') (hall j hj') d e hd hdj b hb,fun i g hig d hd=>by
    have hi':=hfl i (.inr (List.mem_map.2 ⟨_,hig,rfl⟩));rw [hsl i d hi' hd,sep.2.2 i g hig (hall i hi') d hd];obtain ⟨o,ho⟩:∃ o,ops[i]? = some o:=⟨ops[i],List.getElem?_eq_getElem (by omega)⟩;obtain ⟨c1,c2⟩:=hdf i g hig o ho;refine c2 _ _ fun t ht => ?_;obtain ⟨j,hwj,hwt⟩:=c1 t ht;obtain ⟨oj,hoj,hdj⟩:=zBb hwj;have:=hback i j hwt;exact (hsl j t (by omega) (by unfold dstOf;rw [hoj];exact hdj)).symm⟩
   refine zGR (n0:=init.length) (zJu htl) hback tail init.length fuel listed ρ'' a' w' _ (by rw [hin];simp) (Nat.le_refl _) inv.size hall hun (by omega) (by rw [hdm];exact hoks) hlt ?_ hk ?_
   · refine ⟨inv.tmps,fun t ht => ?_⟩;rw [he] at ht ⊢;by_cases hw:∃ (k:Nat) (o:Oper),init[k]? = some o∧o.dst=some t
     · obtain ⟨k,o,hk,ho⟩:=hw;rw [l2 k o t hk ho,Nat.zero_add];exact (hvs k).2 o t hk ho
     · have hno:∀ (k:Nat) (o:Oper),init[k]? = some o→o.dst≠some t:=fun k o hk ho=>hw ⟨k,o,hk,ho⟩;rw [l3 t hno];rcases l1 t ht with h | ⟨k,o,hk,ho⟩
       · refine inv.base t h (fun k o hk hlk => ?_);rcases Nat.lt_or_ge k init.length with h2 | h2
         · rw [hgi k h2] at hk;exact hno k o hk
         · rw [hun k h2] at hlk;cases hlk
       · exact absurd ho (hno k o hk)
   · intro a2 ρ2 w2 hf2 hd2 hq;exact ⟨ρ2,hf2,by rw [hd2,inv.defers];exact hq⟩
 · refine ⟨by simp,fun j i h => ?_,hdrawn,hd,hf.size,fun i o _ h => ?_,fun t ht _=>hf.at_ t ht,fun s hs=>by cases hs⟩
   · rw [getD_replicate_false'] at h;cases h
   · rw [getD_replicate_false'] at h;cases h
 · refine ⟨fun i _ h => ?_,fun i _ j _ _ h => ?_,fun i g _ h => ?_⟩
   · rw [getD_replicate_false'] at h;cases h
   · rw [getD_replicate_false'] at h;cases h
   · rw [getD_replicate_false'] at h;cases h
 · have:(List.range init.length).countP (fun j => !(Array.replicate ops.toArray.size false).getD j false)≤init.length:=Nat.le_trans List.countP_le_length (by simp);simp only [List.size_toArray] at this ⊢;omega
theorem wpe_tailXRN (fl:List Nat) (df:Defs) (n0:Nat) (pl:List Entry) (hm:P.follows .mixedOrders=true) (hok:zAO ops (ops.map fun _ _ _=>True) ρ [] N=true) (hbk:zBX ops=true)
 (htl:zDI ops (ops.take n0).length none=true) (hoks:okOps N ops (ops.drop n0) (domX (ops.take n0) (dom ρ))=true) (hpl:zBS ops 0 (ops.take n0)=some pl) (hfl:∀ i,zCV fl df i→i<(ops.take n0).length) (hdf:zCe ops df)
 (h:∀ K:List (Value→World→Prop)→Prop,(∀ Φs,(∀ w',Ext w0 w'→zBA Φs.reverse (ops.take n0) ρ w' (fun ρ'=>SepE ops fl df ρ'→zAH P r ops (ops.drop n0) ρ' w' (fun ρ'' w''=>Q .normal ρ'' δ w'')))→K Φs)→dRunX P r ρ w0 fl df 0 (ops.take n0) pl [] K):WPE P r N (.region id ops.toArray true) Q δ ρ w0 :=
 wpe_tailXR fl df (ops.take n0) (ops.drop n0) pl (List.take_append_drop n0 ops).symm hm hok hbk htl hoks hpl hfl hdf h
end
theorem stepR_scope {b:Frame} {a:Act} {k:List Item} {cs:List Frame} {c:Code} :
 step P (lone (b.atR a (.code (.scope c) :: k)) cs w) = .next (lone (b.atR a (.code c :: .inScope c :: k)) cs w) :=
 step_lone_go (by simp [stepG,stepG.exec,Frame.atR])
theorem zGQ {b:Frame} {a:Act} {k:List Item} {cs:List Frame} {c:Code} :
 step P (lone (b.atR a (.inScope c :: k)) cs w) = .next (lone (b.atR a k) cs w) :=
 step_lone_go (by simp [stepG,stepG.exec,Frame.atR])
def zIO (l:Nat) (δ0:List Deferred) (J:Env→World→Prop) (Q:Post):Post:=fun e ρ δ w=>match e with | .goto l'=>l'=l∧δ=δ0∧J ρ w | e=>Q e ρ δ w
section posts
variable {J:Env→World→Prop} {δ0:List Deferred} {l:Nat}
theorem zMK (h:Q .ret ρ δ w):zIO l δ0 J Q .ret ρ δ w:=h
theorem scopeQ_hit (h:δ=δ0∧J ρ w):zIO l δ0 J Q (.goto l) ρ δ w:=⟨rfl,h⟩
end posts
theorem ArrivesIn.scope {I:Machine→Prop} {m:Machine} {b:Frame} {c:Code} {k:List Item} {cs:List Frame} {e:Exit} {a:Act} 
 (he:e≠.normal) (hg:∀ l,e≠.goto l) (h:ArrivesIn I P m b (.inScope c :: k) cs e a w):ArrivesIn I P m b k cs e a w:=by
 cases e with
 | normal=>exact absurd rfl he
 | goto l=>exact absurd rfl (hg l)
 | exit id=>exact ⟨fun k' hk=>h.1 k' (by simpa [exitTo] using hk),fun hr hk=>h.2 hr (by simpa [exitTo] using hk)⟩
 | ret=>exact h
 | panic ch=>exact h
 | outgrown=>exact h
theorem wpe_scope {c y:Code} {l:Nat} (hf:findLabel c l=some (.seq .skip y)) {X:Type} (I:X→Env→World→Prop) (μ:X→Nat)
 (pass:∀ x ρ w,I x ρ w→WPE P r N y (zIO l δ (fun ρ' w'=>∃ x',I x' ρ' w'∧μ x'<μ x) Q) δ ρ w)
 (first:(∀ x ρ w,I x ρ w→WPE P r N y (zIO l δ (fun ρ' w'=>∃ x',I x' ρ' w') Q) δ ρ w)→WPE P r N c (zIO l δ (fun ρ' w'=>∃ x',I x' ρ' w') Q) δ ρ w):WPE P r N (.scope c) Q δ ρ w:=fun a hfr hd=>by
 intro b k cs hro hb hr;have hg:gotoIn l (.inScope c :: k)=some (.code (.seq .skip y) :: .inScope c :: k):=by simp [gotoIn,hf]
 have pass':∀ x ρ w,I x ρ w→WPE P r N (.seq .skip y) (zIO l δ (fun ρ' w'=>∃ x',I x' ρ' w'∧μ x'<μ x) Q) δ ρ w:=fun x ρ w hI=>zA (zz (zN (pass x ρ w hI)));have hy:∀ x ρ w,I x ρ w→WPE P r N y (zIO l δ (fun ρ' w'=>∃ x',I x' ρ' w') Q) δ ρ w:=fun x ρ w hI=>zMc (pass x ρ w hI) fun e ρ δ' w hq=>by
  cases e with
  | goto l'=>obtain ⟨h1,h2,x',h3,-⟩:=hq;exact ⟨h1,h2,x',h3⟩
  | _=>exact hq
 have key:∀ j x a ρ w,μ x=j→Fr N a ρ→a.defers=δ→I x ρ w →
  ∃ e a' w',lift N Q e a' w'∧ArrivesIn (Machine.fenced P (W r)) P (lone (b.atR a (.code (.seq .skip y) :: .inScope c :: k)) cs w) b k cs e a' w':=by
  intro j
  induction j using Nat.strongRecOn with
  | _ j ih =>
   intro x a ρ w hn hf hd hI;obtain ⟨e,a₁,w₁,⟨ρ₁,hf₁,hq⟩,harr⟩:=pass' x ρ w hI a hf hd b (.inScope c :: k) cs hro hb hr;cases e with
   | normal=>exact ⟨.normal,a₁,w₁,⟨ρ₁,hf₁,hq⟩,StepsIn.trans harr (.one (fenced_calm hb hr rfl) zGQ)⟩
   | goto l' =>
    obtain ⟨rfl,hd₁,x₁,hI₁,hlt⟩:=hq;obtain ⟨e₂,a₂,w₂,hq₂,harr₂⟩:=ih (μ x₁) (hn ▸ hlt) x₁ a₁ ρ₁ w₁ rfl hf₁ hd₁ hI₁;exact ⟨e₂,a₂,w₂,hq₂,.of_steps (harr.1 _ hg) harr₂⟩
   | exit id=>exact ⟨_,a₁,w₁,⟨ρ₁,hf₁,hq⟩,ArrivesIn.scope (by simp) (by simp) harr⟩
   | ret=>exact ⟨_,a₁,w₁,⟨ρ₁,hf₁,hq⟩,ArrivesIn.scope (by simp) (by simp) harr⟩
   | panic ch=>exact ⟨_,a₁,w₁,⟨ρ₁,hf₁,hq⟩,ArrivesIn.scope (by simp) (by simp) harr⟩
   | outgrown=>exact ⟨_,a₁,w₁,⟨ρ₁,hf₁,hq⟩,ArrivesIn.scope (by simp) (by simp) harr⟩
 obtain ⟨e,a₁,w₁,⟨ρ₁,hf₁,hq⟩,harr⟩:=first hy a hfr hd b (.inScope c :: k) cs hro hb hr;have h0:=StepsIn.one (P:=P) (fenced_calm (F:=W r) (P:=P) (w:=w) (fr:=b.atR a (.code (.scope c) :: k)) (cs:=cs) hb hr rfl) stepR_scope;cases e with
 | normal=>exact ⟨.normal,a₁,w₁,⟨ρ₁,hf₁,hq⟩,StepsIn.trans h0 (StepsIn.trans harr (.one (fenced_calm hb hr rfl) zGQ))⟩
 | goto l' =>
  obtain ⟨rfl,hd₁,x₁,hI₁⟩:=hq;obtain ⟨e₂,a₂,w₂,hq₂,harr₂⟩:=key _ x₁ a₁ ρ₁ w₁ rfl hf₁ hd₁ hI₁;exact ⟨e₂,a₂,w₂,hq₂,.of_steps h0 (.of_steps (harr.1 _ hg) harr₂)⟩
 | exit id=>exact ⟨_,a₁,w₁,⟨ρ₁,hf₁,hq⟩,.of_steps h0 (ArrivesIn.scope (by simp) (by simp) harr)⟩
 | ret=>exact ⟨_,a₁,w₁,⟨ρ₁,hf₁,hq⟩,.of_steps h0 (ArrivesIn.scope (by simp) (by simp) harr)⟩
 | panic ch=>exact ⟨_,a₁,w₁,⟨ρ₁,hf₁,hq⟩,.of_steps h0 (ArrivesIn.scope (by simp) (by simp) harr)⟩
 | outgrown=>exact ⟨_,a₁,w₁,⟨ρ₁,hf₁,hq⟩,.of_steps h0 (ArrivesIn.scope (by simp) (by simp) harr)⟩
end Go.Proofs.YtjiendlfobjanaaGreatDoor
namespace Go.Proofs.YtjiendlfobjanaaGreatDoor
open Go Go.RowKit Go.Proofs Tryz
variable {T:TypeId} {b n:Nat} {cs:List Value} {ds:List Nat} {p:Option Addr} {q:Rat} {v:Value} {w w':World}
def nat64:List Nat→Nat
 | []=>0
 | d :: ds=>d+18446744073709551616*nat64 ds
def Dig (ds:List Nat):Prop:=∀ d∈ds,d<18446744073709551616
def Norm (ds:List Nat):Prop:=Dig ds∧ds.getLast?≠some 0
def dv (ds:List Nat):List Value:=ds.map fun (d:Nat) => .int .u64 (d:Int)
def Rd (w:World) (p:Option Addr) (ds:List Nat):Prop :=
 ∀ i,i<ds.length→∃ b o cs,p=some ⟨b,o,none⟩∧Blk w b 164 cs∧cs[o+i]? = some (.int .u64 (ds.getD i 0:Nat))
def IsW (w:World) (v:Value) (n:Nat):Prop:=∃ p ds cap,v = .slice p ds.length cap∧ds.length≤cap∧Rd w p ds∧Norm ds∧nat64 ds=n
theorem Rd.ext (h:Rd w p ds) (hx:Ext w w'):Rd w' p ds:=fun i hi=>by
 obtain ⟨b,o,cs,h1,h2,h3⟩:=h i hi;exact ⟨b,o,cs,h1,h2.ext hx,h3⟩
theorem Rd.upd (h:Rd w p ds) (hu:Upd b w w') (hb:Blk w b T cs) (hT:T≠164):Rd w' p ds:=fun i hi=>by
 obtain ⟨c,o,cs',h1,h2,h3⟩:=h i hi;exact ⟨c,o,cs',h1,h2.upd hu (fun e=>by subst e;exact hT (hb.inj h2).1),h3⟩
theorem Rd.upd' (h:Rd w p ds) (hu:Upd b w w') (hp:∀ a,p=some a→0<ds.length→a.block≠b):Rd w' p ds:=fun i hi=>by
 obtain ⟨c,o,cs',h1,h2,h3⟩:=h i hi;exact ⟨c,o,cs',h1,h2.upd hu (hp _ h1 (by omega)),h3⟩
theorem Rd.ne (h:Rd w p ds) (hb:w.heap.size≤b):∀ a,p=some a→0<ds.length→a.block≠b:=fun a ha hd=>by
 obtain ⟨c,o,cs',h1,h2,h3⟩:=h 0 hd;rw [ha] at h1;cases h1;have:=h2.lt;simp only;omega
theorem Rd.lt (h:Rd w p ds) (hd:0<ds.length):∃ a,p=some a∧a.block<w.heap.size:=by
 obtain ⟨c,o,cs',h1,h2,h3⟩:=h 0 hd;exact ⟨_,h1,h2.lt⟩
theorem IsW.ext (h:IsW w v n) (hx:Ext w w'):IsW w' v n:=by
 obtain ⟨p,ds,cap,h1,h2,h3,h4,h5⟩:=h;exact ⟨p,ds,cap,h1,h2,h3.ext hx,h4,h5⟩
theorem IsW.upd (h:IsW w v n) (hu:Upd b w w') (hb:Blk w b T cs) (hT:T≠164):IsW w' v n:=by
 obtain ⟨p,ds,cap,h1,h2,h3,h4,h5⟩:=h;exact ⟨p,ds,cap,h1,h2,h3.upd hu hb hT,h4,h5⟩
def NoW (S:List Nat) (w:World):Prop:=∀ b∈S,∃ T cs,Blk w b T cs∧T≠164
theorem NoW.ext {S:List Nat} (h:NoW S w) (hx:ExtS S w w'):NoW S w':=fun b hb=>by
 obtain ⟨T,cs,h1,h2⟩:=h b hb;obtain ⟨cs',h3⟩:=hx.kind b T cs h1;exact ⟨T,cs',h3,h2⟩
theorem Rd.extS {S:List Nat} (h:Rd w p ds) (hx:ExtS S w w') (hS:NoW S w):Rd w' p ds:=fun i hi=>by
 obtain ⟨c,o,cs',h1,h2,h3⟩:=h i hi;refine ⟨c,o,cs',h1,h2.extS hx (fun hc => ?_),h3⟩;obtain ⟨T,cs,h4,h5⟩:=hS c hc;exact h5 (h4.inj h2).1
theorem IsW.extS {S:List Nat} (h:IsW w v n) (hx:ExtS S w w') (hS:NoW S w):IsW w' v n:=by
 obtain ⟨p,ds,cap,h1,h2,h3,h4,h5⟩:=h;exact ⟨p,ds,cap,h1,h2,h3.extS hx hS,h4,h5⟩
def IsNum (w:World) (v:Value) (q:Rat):Prop :=
 ∃ n d,v = .agg #[.bool (decide (q<0)),n,d]∧IsW w n q.num.natAbs∧IsW w d (if q.den=1 then 0 else q.den)
theorem IsNum.ext (h:IsNum w v q) (hx:Ext w w'):IsNum w' v q:=by
 obtain ⟨n,d,hv,h1,h2⟩:=h;exact ⟨n,d,hv,h1.ext hx,h2.ext hx⟩
theorem IsNum.upd (h:IsNum w v q) (hu:Upd b w w') (hb:Blk w b T cs) (hT:T≠164):IsNum w' v q:=by
 obtain ⟨n,d,hv,h1,h2⟩:=h;exact ⟨n,d,hv,h1.upd hu hb hT,h2.upd hu hb hT⟩
theorem IsNum.extS {S:List Nat} (h:IsNum w v q) (hx:ExtS S w w') (hS:NoW S w):IsNum w' v q:=by
 obtain ⟨n,d,hv,h1,h2⟩:=h;exact ⟨n,d,hv,h1.extS hx hS,h2.extS hx hS⟩
theorem mixed:prog.follows .mixedOrders=true:=by kernel_rfl
theorem zBm:Plain prog 4:=by unfold Plain;exact ⟨by kernel_rfl,by kernel_rfl⟩
theorem zBR:Plain prog 3:=by unfold Plain;exact ⟨by kernel_rfl,by kernel_rfl⟩
theorem zAf:Plain prog 35:=by unfold Plain;exact ⟨by kernel_rfl,by kernel_rfl⟩
theorem zAT:Plain prog 164:=by unfold Plain;exact ⟨by kernel_rfl,by kernel_rfl⟩
theorem zCU:(prog.info? 164).map (·.size)=some 1:=by kernel_rfl
theorem zGN:(prog.info? 37).map (·.size)=some 3:=by kernel_rfl
theorem zAP:(prog.info? 37).bind (·.zero)=some (.agg #[.bool false,.slice none 0 0,.slice none 0 0]):=by kernel_rfl
theorem zX:zAZ prog 35 164 1:=by unfold zAZ;exact ⟨by kernel_rfl,by kernel_rfl⟩
theorem zDM:prog.underlying 35=some (.slice 164):=by kernel_rfl
theorem zFX:(prog.info? 164).map (fun i=>(i.zero,i.size,i.bytes))=some (some (.int .u64 0),1,8):=by kernel_rfl
theorem info164':(prog.info? 164).map (fun i=>(i.zero,i.size))=some (some (.int .u64 0),1):=by kernel_rfl
theorem zAB:Aggr prog 37 3:=by unfold Aggr;exact ⟨by kernel_rfl,by kernel_rfl⟩
theorem zCf:zt prog 37 0 0:=by unfold zt;kernel_rfl
theorem zBz:zt prog 37 1 1:=by unfold zt;kernel_rfl
theorem zEk:zt prog 37 2 2:=by unfold zt;kernel_rfl
end Go.Proofs.YtjiendlfobjanaaGreatDoor
namespace Go.Proofs.YtjiendlfobjanaaGreatDoor
variable {L a b d i k o:Nat} {ds:List Nat} {w:World}
theorem zDl (d:Nat):nat64 [d]=d:=by
 show d+18446744073709551616*0=d;rw [Nat.mul_zero,Nat.add_zero]
theorem zBI:∀ (a b:List Nat),nat64 (a++b)=nat64 a+18446744073709551616^a.length*nat64 b
 | [],b=>by simp [nat64]
 | x :: a,b=>by
  have:=zBI a b;simp only [List.cons_append,nat64,List.length_cons,Nat.pow_succ,this];rw [Nat.mul_add,← Nat.add_assoc];congr 1;rw [← Nat.mul_assoc,Nat.mul_comm 18446744073709551616]
theorem zCE:∀ (ds:List Nat),Dig ds→nat64 ds<18446744073709551616^ds.length
 | [],_=>by simp [nat64]
 | d :: ds,h=>by
  have h1:=zCE ds fun x hx=>h x (by simp [hx]);have h2:=h d (by simp);simp only [nat64,List.length_cons,Nat.pow_succ];have:nat64 ds+1≤18446744073709551616^ds.length:=h1;have:=Nat.mul_le_mul_left 18446744073709551616 this;rw [Nat.mul_comm (_^_)];omega
theorem Dig.take (h:Dig ds) (k:Nat):Dig (ds.take k):=fun d hd=>h d (List.mem_of_mem_take hd)
theorem Dig.drop (h:Dig ds) (k:Nat):Dig (ds.drop k):=fun d hd=>h d (List.mem_of_mem_drop hd)
theorem Dig.getD (h:Dig ds) (k:Nat):ds.getD k 0<18446744073709551616:=by
 by_cases hk:k<ds.length
 · simp only [List.getD_eq_getElem?_getD,List.getElem?_eq_getElem hk,Option.getD_some];exact h _ (List.getElem_mem hk)
 · simp [List.getElem?_eq_none (Nat.le_of_not_lt hk)]
theorem zFR (h:k<ds.length):ds.take (k+1)=ds.take k++[ds.getD k 0]:=by
 rw [List.take_succ_eq_append_getElem h];simp [h]
theorem zDG (h:k<ds.length):nat64 (ds.take (k+1))=nat64 (ds.take k)+18446744073709551616^k*ds.getD k 0:=by
 rw [zFR h,zBI];simp [nat64,Nat.min_eq_left (Nat.le_of_lt h)]
theorem zEK (ds:List Nat) (k:Nat):nat64 ds=nat64 (ds.take k)+18446744073709551616^(min k ds.length)*nat64 (ds.drop k):=by
 conv=>lhs;rw [← List.take_append_drop k ds,zBI]
 simp
theorem Norm.lo (h:Norm ds) (h0:ds≠[]):18446744073709551616^(ds.length-1)≤nat64 ds:=by
 obtain ⟨_,hl⟩:=h;rw [← List.dropLast_concat_getLast h0,zBI];have hne:ds.getLast h0≠0:=fun e=>hl (by rw [List.getLast?_eq_some_getLast h0,e]);have:1≤nat64 [ds.getLast h0]:=by simp [nat64];omega
 have:=Nat.mul_le_mul_left (18446744073709551616^ds.dropLast.length) this;simp at this ⊢;omega
theorem Norm.zero (h:Norm ds):nat64 ds=0↔ds=[]:=by
 constructor
 · intro e;by_cases h0:ds=[]
   · exact h0
   · have:=h.lo h0;have:0<18446744073709551616^(ds.length-1):=Nat.pow_pos (by decide);omega
 · rintro rfl;rfl
theorem Norm.len_lt {a b:List Nat} (ha:Dig a) (hb:Norm b) (h:a.length<b.length):nat64 a<nat64 b:=by
 have h1:=zCE a ha;have h2:=hb.lo (by rintro rfl;simp at h);have:18446744073709551616^a.length≤18446744073709551616^(b.length-1):=Nat.pow_le_pow_right (by decide) (by omega);omega
theorem zKY:∀ (a b:List Nat),Dig a→Dig b→a.length=b.length→nat64 a=nat64 b→a=b
 | [],[],_,_,_,_=>rfl
 | x :: a,y :: b,ha,hb,hl,h=>by
  have hx:=ha x (by simp);have hy:=hb y (by simp);simp only [nat64] at h;have h1:x=y:=by omega
  have h2:nat64 a=nat64 b:=by omega
  rw [h1,zKY a b (fun d hd=>ha d (by simp [hd])) (fun d hd=>hb d (by simp [hd])) (by simpa using hl) h2]
theorem Norm.inj {a b:List Nat} (ha:Norm a) (hb:Norm b) (h:nat64 a=nat64 b):a=b:=by
 rcases Nat.lt_trichotomy a.length b.length with hl | hl | hl
 · have:=Norm.len_lt ha.1 hb hl;omega
 · exact zKY a b ha.1 hb.1 hl h
 · have:=Norm.len_lt hb.1 ha hl;omega
theorem Norm.len_le (h:Norm ds) (hL:(nat64 ds).log2<L):ds.length≤L/64+1:=by
 by_cases h0:ds=[]
 · simp [h0]
 · have h1:=h.lo h0;have hne:nat64 ds≠0:=fun e=>h0 (h.zero.1 e);have h2:=(Nat.log2_lt hne).1 hL;have h3:(18446744073709551616:Nat)=2^64:=by decide
   rw [h3,← Nat.pow_mul] at h1;have h4:2^(64*(ds.length-1))<2^L:=Nat.lt_of_le_of_lt h1 h2;have h5:=(Nat.pow_lt_pow_iff_right (by decide:1<2)).1 h4;omega
theorem zAl (ds:List Nat):(dv ds).length=ds.length:=by simp [dv]
theorem dv_set (ds:List Nat) (i d:Nat):(dv ds).set i (.int .u64 (d:Int))=dv (ds.set i d):=by simp [dv,List.map_set]
theorem zEa (ds:List Nat) (i:Nat) (h:i<ds.length):(dv ds)[i]? = some (.int .u64 (ds.getD i 0:Nat)):=by simp [dv,h]
theorem zCL (n:Nat):(List.replicate n [Value.int .u64 0]).flatten=dv (List.replicate n 0):=by
 simp only [dv,List.map_replicate]
 induction n with
 | zero=>rfl
 | succ n ih=>simp only [List.replicate_succ,List.flatten_cons,ih];rfl
theorem t_bne (h:(((a:Nat):Int) != ((b:Nat):Int))=true):a≠b:=by rw [bne_iff_ne] at h;omega
theorem f_bne (h:(((a:Nat):Int) != ((b:Nat):Int))=false):a=b:=by
 have:=bne_eq_false_iff_eq.1 h;omega
theorem t_beq (h:(((a:Nat):Int)==((b:Nat):Int))=true):a=b:=by rw [beq_iff_eq] at h;omega
theorem f_beq (h:(((a:Nat):Int)==((b:Nat):Int))=false):a≠b:=by
 have:=beq_eq_false_iff_ne.1 h;omega
theorem t_lt (h:decide (((a:Nat):Int)<((b:Nat):Int))=true):a<b:=by rw [decide_eq_true_eq] at h;omega
theorem f_lt (h:decide (((a:Nat):Int)<((b:Nat):Int))=false):b≤a:=by rw [decide_eq_false_iff_not] at h;omega
theorem zAG {x:Int} (h0 : -9223372036854775808≤x) (h1:x<9223372036854775808):IntKind.i64.wrap x=x:=by
 simp only [IntKind.wrap,IntKind.bits,IntKind.signed];by_cases h:0≤x
 · simp;omega
 · simp;omega
theorem zBv (x:Int):IntKind.u64.wrap x=x%18446744073709551616:=by
 simp [IntKind.wrap,IntKind.bits,IntKind.signed]
theorem zAD (h:i<4611686018427387904):IntKind.i64.wrap ((i:Int)+1)=((i+1:Nat):Int):=by
 rw [zAG (by omega) (by omega)];omega
theorem zBh {l:List Nat} (h:Blk w b 164 (zAy (dv l) o [.int .u64 (d:Int)])) (ho:o=i):Blk w b 164 (dv (l.set i d)):=by
 subst ho;rw [← dv_set];exact h
def sz (x:Rat):Nat:=x.num.natAbs.log2+x.den.log2
def rroom (x y:Rat):Bool:=decide (sz x+sz y<1099511627776)
def radd (x y:Rat):Option Rat:=if rroom x y then some (x+y) else none
def rsub (x y:Rat):Option Rat:=if rroom x y then some (x-y) else none
def rmul (x y:Rat):Option Rat:=if rroom x y then some (x*y) else none
def rdiv (x y:Rat):Option Rat:=if rroom x y then some (x/y) else none
def rsign (x:Rat):Int:=x.num.sign
def rcmp (x y:Rat):Option Int:=if rroom x y then some (if x<y then -1 else if x=y then 0 else 1) else none
def rabs (x:Rat):Rat:=if x<0 then -x else x
abbrev Poly:=List Rat
def trim (p:Poly):Poly:=(p.reverse.dropWhile fun x=>decide (x=0)).reverse
def top (p:Poly):Rat:=p.getD (p.length-1) 0
def addAt:Poly→Nat→Poly→Option Poly
 | [],_,O=>some O
 | c :: q,i,O=>(radd (O.getD i 0) c).bind fun s=>addAt q (i+1) (O.set i s)
def padd (p q:Poly):Option Poly:=(if p.length<q.length then addAt p 0 q else addAt q 0 p).map trim
def mapO {α β:Type} (f:α→Option β):List α→Option (List β)
 | []=>some []
 | x :: l=>(f x).bind fun y=>(mapO f l).bind fun r=>some (y :: r)
def zFO (p:Poly) (x:Rat):Option Poly:=(mapO (fun c=>rmul c x) p).map trim
def psub (p q:Poly):Option Poly:=(zFO q (-1)).bind fun m=>padd p m
def zLn (a:Rat):Poly→Nat→Poly→Option Poly
 | [],_,O=>some O
 | b :: q,k,O=>(rmul a b).bind fun m=>(radd (O.getD k 0) m).bind fun s=>zLn a q (k+1) (O.set k s)
def mulL (q:Poly):Poly→Nat→Poly→Option Poly
 | [],_,O=>some O
 | a :: p,i,O=>if a=0 then mulL q p (i+1) O else (zLn a q i O).bind fun O'=>mulL q p (i+1) O'
def pmul (p q:Poly):Option Poly:=if 4096<p.length+q.length then none else (mulL q p 0 (List.replicate (p.length+q.length) 0)).map trim
def zGt:Poly→Nat→Option Poly
 | [],_=>some []
 | c :: p,i=>if i=0 then zGt p 1 else (rmul c (i:Rat)).bind fun m=>(zGt p (i+1)).bind fun r=>some (m :: r)
def zIt (p:Poly):Option Poly:=(zGt p 0).map trim
def evalL (x:Rat):Poly→Rat→Option Rat
 | [],acc=>some acc
 | c :: p,acc=>(rmul acc x).bind fun m=>(radd m c).bind fun s=>evalL x p s
def peval (p:Poly) (x:Rat):Option Rat:=evalL x p.reverse 0
def zMN (c:Rat):Poly→Nat→Poly→Option Poly
 | [],_,O=>some O
 | d :: q,k,O=>(rmul c d).bind fun m=>(rsub (O.getD k 0) m).bind fun s=>zMN c q (k+1) (O.set k s)
def divL (q:Poly):Nat→Poly→Poly→Option (Poly×Poly)
 | 0,_,_=>none
 | f+1,rest,quo=>if rest.length<q.length then some (trim quo,rest) else
  (rdiv (top rest) (top q)).bind fun c=>(zMN c q (rest.length-q.length) rest).bind fun r=>divL q f (trim r) (quo.set (rest.length-q.length) c)
def pdiv (p q:Poly):Option (Poly×Poly) :=
 if trim q=[] then none else divL (trim q) ((trim p).length+1) (trim p) (List.replicate ((trim p).length+1-(trim q).length) 0)
def zHB (p q:Poly):Option Poly:=(pdiv p q).map Prod.fst
def monic (p:Poly):Option Poly:=if trim p=[] then some [] else (rdiv 1 (top (trim p))).bind fun c=>zFO (trim p) c
def zJc:Nat→Poly→Poly→Option Poly
 | 0,_,_=>none
 | f+1,p,q=>if q=[] then some p else (pdiv p q).bind fun r=>(monic r.2).bind fun m=>zJc f q m
def zIi (p q:Poly):Option Poly:=(monic p).bind fun p=>(monic q).bind fun q=>zJc (q.length+1) p q
def zGD (p:Poly):Option Poly:=if trim p=[] then some [] else (rdiv 1 (rabs (top (trim p)))).bind fun c=>zFO (trim p) c
def zHc:Nat→Poly→Poly→Option (List Poly)
 | 0,_,_=>none
 | f+1,p,q=>if p=[] then some [] else if q=[] then some [p] else
  (pdiv p q).bind fun r=>(zFO r.2 (-1)).bind fun s=>(zGD s).bind fun s=>(zHc f q s).bind fun l=>some (p :: l)
def chain (p q:Poly):Option (List Poly):=(zGD p).bind fun p=>(zGD q).bind fun q=>zHc (q.length+2) p q
def flipL:List Int→Int→Int→Int
 | [],_,n=>n
 | s :: l,last,n=>if s=0 then flipL l last n else flipL l s (if (last=1∧s = -1)∨(last = -1∧s=1) then n+1 else n)
def endS (minus:Bool) (p:Poly):Int:=if minus=true∧p.length%2=0 then-rsign (top p) else rsign (top p)
def atS (x:Rat) (p:Poly):Option Int:=(peval p x).map rsign
def zBi (minus:Bool) (c:List Poly):Int:=flipL (c.map (endS minus)) 0 0
def zGu (x:Rat) (c:List Poly):Option Int:=(mapO (atS x) c).map fun l=>flipL l 0 0
def zNt (p:Poly):Option Poly:=(zIt p).bind fun d=>(zIi p d).bind fun g=>zHB p g
def own (p:Poly):Option (List Poly):=(zNt p).bind fun s=>(zIt s).bind fun d=>chain s d
def zMU:Nat→Poly→Int→Option Int
 | 0,_,_=>none
 | f+1,p,n=>if (trim p).length≤1 then some n else
  (own p).bind fun c=>(zIt p).bind fun d=>(zIi p d).bind fun g=>zMU f g (n+(zBi true c-zBi false c))
def times (p:Poly):Option Int:=zMU (p.length+1) p 0
def zKE (x y:Poly):Poly→Poly→Poly→Option (Poly×Poly)
 | [],re,im=>some (re,im)
 | c :: p,re,im=>(pmul re x).bind fun a=>(pmul im y).bind fun b=>(psub a b).bind fun s=>(padd s [c]).bind fun re' =>
  (pmul re y).bind fun e=>(pmul im x).bind fun g=>(padd e g).bind fun im'=>zKE x y p re' im'
def along (p x y:Poly):Option (Poly×Poly):=zKE x y p.reverse [] []
def half2 (n:Int):Int:=n.tdiv 2
def zNs (p:Poly):Option (Int×Int) :=
 (along (trim p) [] [0,1]).bind fun ri=>(zIi ri.1 ri.2).bind fun g=>(times g).bind fun axis =>
  (zHB ri.1 g).bind fun re=>(zHB ri.2 g).bind fun im =>
   let n:Int:=max (re.length:Int) im.length-1
   let s:Bool:=decide (im.length<re.length)
   (chain (if s then re else im) (if s then im else re)).bind fun c =>
    let turn:Int:=(if s then -1 else 1)*(zBi true c-zBi false c)
    some (half2 (((trim g).length:Int)-1-axis)+half2 (n-turn),axis)
def asked (p:Poly):Int:=if 41<(trim p).length then 3 else if trim p=[] then 8 else 0
def routh (p:Poly):Option (Int×Int×Int):=if asked p≠0 then some (0,0,asked p) else (zNs p).map fun r=>(r.1,r.2,0)
def sgn (s:Bool) (a:Nat):Int:=if s then -(a:Int) else (a:Int)
theorem zGn (s:Bool) (a:Nat):(sgn s a).natAbs=a:=by cases s<;>simp [sgn]
def qOf (s:Bool) (a b:Nat):Rat:=mkRat (sgn s a) b
theorem qOf_zero (s:Bool) (b:Nat):qOf s 0 b=0:=by cases s<;>simp [qOf,sgn]
theorem zNK {s:Bool} (hb:b≠0):(qOf s a b).num.natAbs=a/Nat.gcd a b:=by
 rw [qOf,Rat.num_mkRat,if_neg hb,zGn,Nat.gcd_comm b a];have hd:((Nat.gcd a b:Nat):Int)∣(a:Int):=Int.natCast_dvd_natCast.2 (Nat.gcd_dvd_left a b);cases s
 · simp only [sgn,Bool.false_eq_true,if_false];rw [← Int.natCast_ediv,Int.natAbs_natCast]
 · simp only [sgn,if_true];rw [Int.neg_ediv_of_dvd hd,Int.natAbs_neg,← Int.natCast_ediv,Int.natAbs_natCast]
theorem zNH {s:Bool} (hb:b≠0):(qOf s a b).den=b/Nat.gcd a b:=by
 rw [qOf,Rat.den_mkRat,if_neg hb,zGn,Nat.gcd_comm b a]
theorem zDH (x:Rat):x<0↔x.num<0:=by
 have h := @Rat.num_nonneg x;rw [← Rat.not_le,← h];omega
theorem zNJ {s:Bool} (ha:a≠0) (hb:b≠0):decide (qOf s a b<0)=s:=by
 have hg:0<Nat.gcd a b:=Nat.gcd_pos_of_pos_left _ (by omega);have hpos:0<a/Nat.gcd a b:=Nat.div_pos (Nat.le_of_dvd (by omega) (Nat.gcd_dvd_left a b)) hg;have hd:((Nat.gcd a b:Nat):Int)∣(a:Int):=Int.natCast_dvd_natCast.2 (Nat.gcd_dvd_left a b);have key:(qOf s a b).num=sgn s (a/Nat.gcd a b):=by
  rw [qOf,Rat.num_mkRat,if_neg hb,zGn,Nat.gcd_comm b a];cases s
  · simp only [sgn,Bool.false_eq_true,if_false];rw [← Int.natCast_ediv]
  · simp only [sgn,if_true];rw [Int.neg_ediv_of_dvd hd,← Int.natCast_ediv]
 have h2:(qOf s a b<0)↔s=true:=by
  rw [zDH,key];cases s
  · simp only [sgn,Bool.false_eq_true,if_false,iff_false];omega
  · simp only [sgn,if_true,iff_true];omega
 cases s
 · exact decide_eq_false (fun h=>by simpa using h2.1 h)
 · exact decide_eq_true (h2.2 rfl)
theorem zFZ (x:Rat):x.num=sgn (decide (x<0)) x.num.natAbs:=by
 by_cases h:x<0
 · have h1:=(zDH x).1 h;rw [decide_eq_true h];simp only [sgn,if_true];omega
 · have h1:¬ x.num<0:=fun e=>h ((zDH x).2 e);rw [decide_eq_false h];simp only [sgn,Bool.false_eq_true,if_false];omega
theorem zNR (s t:Bool) (a b:Nat):sgn s a*sgn t b=sgn (s != t) (a*b):=by
 cases s<;>cases t<;>simp [sgn,Int.neg_mul,Int.mul_neg]
theorem q_mul (x y:Rat):x*y=qOf (decide (x<0) != decide (y<0)) (x.num.natAbs*y.num.natAbs) (x.den*y.den):=by
 rw [Rat.mul_def',qOf,← zNR,← zFZ,← zFZ]
theorem q_add_same (x y:Rat) (h:decide (x<0)=decide (y<0)):x+y=qOf (decide (x<0)) (x.num.natAbs*y.den+y.num.natAbs*x.den) (x.den*y.den):=by
 rw [Rat.add_def',qOf];congr 1;have h1:=zFZ x;have h2:=zFZ y;rw [← h] at h2
 conv=>lhs;rw [h1,h2]
 cases decide (x<0)<;>simp only [sgn,Bool.false_eq_true,if_false,if_true,Int.natCast_add,Int.natCast_mul,Int.neg_mul,Int.neg_add]
theorem zML (s:Bool) (a d:Nat):sgn s a*(d:Int)=sgn s (a*d):=by
 cases s<;>simp [sgn,Int.neg_mul]
theorem sgn_add_lt {s t:Bool} {A C:Nat} (h:s≠t) (hl:A≤C):sgn s A+sgn t C=sgn t (C-A):=by
 cases s<;>cases t
 · exact absurd rfl h
 · simp only [sgn,Bool.false_eq_true,if_false,if_true];omega
 · simp only [sgn,Bool.false_eq_true,if_false,if_true];omega
 · exact absurd rfl h
theorem zIv (x y:Rat) (h:decide (x<0)≠decide (y<0)) (hl:x.num.natAbs*y.den≤y.num.natAbs*x.den):x+y=qOf (decide (y<0)) (y.num.natAbs*x.den-x.num.natAbs*y.den) (x.den*y.den):=by
 rw [Rat.add_def',qOf,← sgn_add_lt h hl,← zML,← zML,← zFZ,← zFZ]
theorem q_add_more (x y:Rat) (h:decide (x<0)≠decide (y<0)) (hl:y.num.natAbs*x.den≤x.num.natAbs*y.den):x+y=qOf (decide (x<0)) (x.num.natAbs*y.den-y.num.natAbs*x.den) (x.den*y.den):=by
 rw [Rat.add_comm,zIv y x (Ne.symm h) hl,Nat.mul_comm y.den]
theorem q_div (x y:Rat) (hy:y≠0):x/y=qOf (decide (x<0) != decide (y<0)) (x.num.natAbs*y.den) (x.den*y.num.natAbs):=by
 have h0:y.num≠0:=fun e=>hy (Rat.num_eq_zero.1 e);rw [Rat.div_def,Rat.inv_def]
 conv=>lhs;rw [← Rat.num_divInt_den x]
 rw [Rat.divInt_mul_divInt,qOf,← zNR,← zFZ];have key:∀ m:Nat,((x.den*m:Nat):Int)=(x.den:Int)*(m:Int):=fun m=>Int.natCast_mul _ _;by_cases hn:y<0
 · have e:y.num = -(y.num.natAbs:Int):=by have:=(zDH y).1 hn;omega
   rw [decide_eq_true hn,← Rat.divInt_ofNat,key];simp only [sgn,if_true]
   conv=>lhs;rw [e]
   rw [Int.mul_neg,Rat.divInt_neg',Int.mul_neg]
 · have e:y.num=(y.num.natAbs:Int):=by have:¬ y.num<0:=fun h=>hn ((zDH y).2 h);omega
   rw [decide_eq_false hn,← Rat.divInt_ofNat,key];simp only [sgn,Bool.false_eq_true,if_false]
   conv=>lhs;rw [e]
def zGc (ratio:Nat→Option Rat):Nat→Poly→Option Poly
 | 0,O=>some O
 | k+1,O=>(ratio k).bind fun c=>(rmul (O.getD (k+1) 0) c).bind fun x=>zGc ratio k (O.set k x)
def zNk (n:Nat) (ratio:Nat→Option Rat):Option Poly:=zGc ratio n ((List.replicate (n+1) 0).set n 1)
def fracA (p:Poly):Poly:=p.mapIdx fun k c=>if (p.length-1-k)%2=0 then c else 0
def fracB (p:Poly):Poly:=trim (p.mapIdx fun k c=>if (p.length-1-k)%2=0 then 0 else c)
def fracL:Nat→Poly→Poly→Option (Option Poly)
 | 0,_,_=>some (some [])
 | n+1,a,b=>if b.length+1≠a.length then some none else
  (rdiv (top a) (top b)).bind fun q=>(pmul b [0,q]).bind fun m=>(psub a m).bind fun c=>(fracL n b c).map (Option.map (q :: ·))
def zEG (p:Poly):Option (Poly×Int) :=
 if asked p≠0 then some ([],asked p) else (fracL ((trim p).length-1) (fracA (trim p)) (fracB (trim p))).map fun r=>match r with | some l=>(l,0) | none=>([],6)
def zLk (p:Poly):Option (Poly×Int) :=
 (routh p).bind fun r=>if r.2.2≠0 then some ([],r.2.2) else if 0<r.1+r.2.1 then some ([],180) else zEG p
def zJJ (p:Poly):Option Poly :=
 let q:=p.mapIdx fun k c=>if 2≤k%4 then -c else c
 let a:=q.mapIdx fun k c=>if k%2=0 then c else 0
 let b:=q.mapIdx fun k c=>if k%2=0 then 0 else c
 (pmul a a).bind fun x=>(pmul b b).bind fun y=>padd x y
def zLs:Nat→Poly→Poly→Option (List Poly)
 | 0,_,_=>none
 | f+1,b,c=>if (trim b).length≤1 then some [] else
  (zIt b).bind fun d=>(psub c d).bind fun rest=>(zIi b rest).bind fun part=>(zHB b part).bind fun b'=>(zHB rest part).bind fun c'=>(zLs f b' c').map (part :: ·)
def parts (p:Poly):Option (List Poly) :=
 (monic p).bind fun p=>(zIt p).bind fun d=>(zIi p d).bind fun g=>(zHB p g).bind fun b=>(zHB d g).bind fun c=>zLs (p.length+1) b c
def count (p:Poly) (lo hi:Rat):Option (Int×Int):=if asked p≠0 then some (0,asked p) else (rcmp lo hi).bind fun z=>if 0<z then some (0,7) else
 (own p).bind fun c=>(zGu lo c).bind fun a=>(zGu hi c).bind fun b=>some (a-b,0)
def zFx (lo hi:Rat):List Poly→Nat→Option Bool
 | [],_=>some true
 | f :: l,i=>if i%2=1∨(trim f).length≤1∨lo=hi then zFx lo hi l (i+1) else
  (count f lo hi).bind fun n=>if 1<n.1 then some false else if n.1=1 then (peval f hi).bind fun v=>if v=0 then zFx lo hi l (i+1) else some false else zFx lo hi l (i+1)
def zKT (p:Poly) (lo:Rat):Nat→Rat→Option Bool
 | 0,_=>none
 | f+1,x=>(radd lo x).bind fun s=>(rmul s (1/2)).bind fun m=>(peval p m).bind fun v=>if v=0 then zKT p lo f m else some (decide (0<v))
def zGz (p:Poly) (lo hi:Rat):Option Bool :=
 (peval p lo).bind fun a=>if a<0 then some false else (peval p hi).bind fun b=>if b<0 then some false else
  if asked p≠0 then some true else (parts p).bind fun l=>(rcmp lo hi).bind fun z=>(zFx lo hi l 0).bind fun n=>if n=false then some false else
   if z<0 then zKT p lo (p.length+1) hi else some true
def rules (num den:Poly) (least most:Rat):Option (Poly×Poly) :=
 (zJJ num).bind fun n=>(zJJ den).bind fun d=>(zFO d most).bind fun x=>(psub x n).bind fun up=>(zFO d least).bind fun y=>(psub n y).bind fun low=>some (up,low)
structure Band where
 lo:Rat
 hi:Rat
 least:Rat
 most:Rat
def fails (num den:Poly) (b:Band):Option Bool :=
 (rules num den b.least b.most).bind fun r=>(zGz r.1 b.lo b.hi).bind fun a=>if a=false then some true else (zGz r.2 b.lo b.hi).map not
def zEE (num den:Poly):List Band→Nat→Option Int
 | [],_=>some (-1)
 | b :: l,i=>(fails num den b).bind fun f=>if f then some i else zEE num den l (i+1)
def witJ (up low:Poly) (lo w:Rat) (n:Nat):Nat→Nat→Option (Option Rat)
 | 0,_=>some none
 | f+1,j=>(rdiv j n).bind fun q=>(rmul w q).bind fun m=>(radd lo m).bind fun x=>(peval up x).bind fun a=>if a<0 then some (some x) else (peval low x).bind fun b=>if b<0 then some (some x) else witJ up low lo w n f (j+1)
def witN (up low:Poly) (lo w:Rat):Nat→Nat→Option Rat
 | 0,_=>none
 | f+1,n=>(witJ up low lo w n (n+1) 0).bind fun r=>match r with | some x=>some x | none=>witN up low lo w f (2*n)
variable {P:Program} {af:Array Edge} {g:Option (Nat×Bool)} {pos:String} {r:Option Nat} {ty:TypeId} {σ:Operand→Value}
section laws
open Go Go.RowKit Go.Proofs Tryz
variable {K:Value→World→Prop} {d:Option Tmp}
end laws
def co (p:Poly) (k:Nat):Rat:=p.getD k 0
def conv:Poly→Poly→Nat→Rat
 | [],_,_=>0
 | a :: _,q,0=>a*co q 0
 | a :: p,q,k+1=>a*co q (k+1)+conv p q k
theorem rsign_pos {x:Rat} (h:0<x):rsign x=1:=by
 have h2:=(Rat.lt_iff 0 x).1 h;exact Int.sign_eq_one_of_pos (by simpa using h2)
theorem rsign_neg {x:Rat} (h:x<0):rsign x = -1:=by
 have h2:=(Rat.lt_iff x 0).1 h;exact Int.sign_eq_neg_one_of_neg (by simpa using h2)
theorem rsign_cases {x:Rat} (h:x≠0):(0<x∧rsign x=1)∨(x<0∧rsign x = -1):=by
 by_cases e:0<x
 · exact .inl ⟨e,rsign_pos e⟩
 · have e2:x<0:=by grind
   exact .inr ⟨e2,rsign_neg e2⟩
variable {n:Nat}
section
variable {c d:Rat} {a b P Q:Poly}
end

variable {D:Int}
theorem divInt_of {x:Rat} {z:Int} (hD:D≠0) (h:x*D=z):x=Rat.divInt z D:=by
 have hd:(D:Rat)≠0:=fun e=>hD (by exact_mod_cast e);rw [Rat.divInt_eq_div];grind
theorem zIq (h:n<2^a):n.log2≤a:=by
 by_cases e:n=0
 · subst e;simp
 · exact Nat.le_of_lt ((Nat.log2_lt e).2 h)
theorem sz_of {x:Rat} {z:Int} (hD:D≠0) (h:x*D=z) (hz:2*z.natAbs≤2^a) (hd:2*D.natAbs≤2^a):sz x≤2*a:=by
 have hx:=divInt_of hD h;have hpos:0<2^a:=Nat.two_pow_pos a;have h1:x.num.natAbs≤z.natAbs:=by
  rw [hx,Rat.num_divInt];refine Nat.le_trans (Int.natAbs_ediv_le_natAbs _ _) ?_;rw [Int.natAbs_mul];have:D.sign.natAbs≤1:=by rw [Int.natAbs_sign];split<;>omega
  exact Nat.le_trans (Nat.mul_le_mul_right _ this) (by omega)
 have h2:x.den≤D.natAbs:=by
  rw [hx,Rat.den_divInt,if_neg hD];exact Nat.div_le_self _ _
 unfold sz;have:=zIq (show x.num.natAbs<2^a by omega);have:=zIq (show x.den<2^a by omega);omega
theorem ne_cast (h:D≠0):(D:Rat)≠0:=fun e=>h (by exact_mod_cast e)


def sm:Nat→(Nat→Rat)→Rat
 | 0,_=>0
 | n+1,f=>sm n f+f n

end Go.Proofs.YtjiendlfobjanaaGreatDoor
namespace Go.Proofs.YtjiendlfobjanaaGreatDoor
open Go Go.Proofs Tryz
abbrev YB:=zAq prog
theorem hb3:YB 3:=hb_ func3
theorem hb4:YB 4:=hb_ func4
theorem hb14:YB 14:=hb_ func14
theorem hb16:YB 16:=hb_ func16
theorem hb17:YB 17:=hb_ func17
theorem hb18:YB 18:=hb_ func18
theorem hb19:YB 19:=hb_ func19
theorem hb21:YB 21:=hb_ func21
theorem hb24:YB 24:=hb_ func24
theorem hb29:YB 29:=hb_ func29
theorem hb32:YB 32:=hb_ func32
theorem hb33:YB 33:=hb_ func33
theorem hb34:YB 34:=hb_ func34
theorem hb35:YB 35:=hb_ func35
theorem hb36:YB 36:=hb_ func36
theorem hb37:YB 37:=hb_ func37
theorem hb38:YB 38:=hb_ func38
theorem hb45:YB 45:=hb_ func45
theorem hb51:YB 51:=hb_ func51
theorem hb53:YB 53:=hb_ func53
theorem hb54:YB 54:=hb_ func54
theorem hb55:YB 55:=hb_ func55
theorem hb56:YB 56:=hb_ func56
theorem hb57:YB 57:=hb_ func57
theorem hb59:YB 59:=hb_ func59
theorem hb63:YB 63:=hb_ func63
theorem hb64:YB 64:=hb_ func64
theorem hb65:YB 65:=hb_ func65
theorem hb67:YB 67:=hb_ func67
theorem hb68:YB 68:=hb_ func68
theorem hb69:YB 69:=hb_ func69
theorem hb70:YB 70:=hb_ func70
theorem hb71:YB 71:=hb_ func71
theorem hb72:YB 72:=hb_ func72
theorem hb73:YB 73:=hb_ func73
theorem hb75:YB 75:=hb_ func75
theorem hb79:YB 79:=hb_ func79
theorem hb80:YB 80:=hb_ func80
theorem hb81:YB 81:=hb_ func81
theorem hb82:YB 82:=hb_ func82
theorem hb87:YB 87:=hb_ func87
theorem hb88:YB 88:=hb_ func88
theorem hb89:YB 89:=hb_ func89
theorem hb94:YB 94:=hb_ func94
theorem hb95:YB 95:=hb_ func95
theorem hb96:YB 96:=hb_ func96
theorem hb97:YB 97:=hb_ func97
theorem hb98:YB 98:=hb_ func98
theorem hb99:YB 99:=hb_ func99
theorem hb100:YB 100:=hb_ func100
theorem hb101:YB 101:=hb_ func101
theorem hb102:YB 102:=hb_ func102
theorem hb103:YB 103:=hb_ func103
theorem hb104:YB 104:=hb_ func104
theorem hb105:YB 105:=hb_ func105
theorem hb106:YB 106:=hb_ func106
theorem hb107:YB 107:=hb_ func107
theorem hb108:YB 108:=hb_ func108
theorem hb109:YB 109:=hb_ func109
theorem hb119:YB 119:=hb_ func119
theorem hb127:YB 127:=hb_ func127
theorem hb131:YB 131:=hb_ func131
theorem hb132:YB 132:=hb_ func132
theorem hb134:YB 134:=hb_ func134
theorem hb135:YB 135:=hb_ func135
theorem hb136:YB 136:=hb_ func136
theorem hb138:YB 138:=hb_ func138
theorem hb144:YB 144:=hb_ func144
theorem hb146:YB 146:=hb_ func146
theorem hb147:YB 147:=hb_ func147
theorem hb149:YB 149:=hb_ func149
theorem hb150:YB 150:=hb_ func150
theorem hb151:YB 151:=hb_ func151
theorem hb152:YB 152:=hb_ func152
theorem hb153:YB 153:=hb_ func153
theorem hb154:YB 154:=hb_ func154
theorem hb155:YB 155:=hb_ func155
theorem hb156:YB 156:=hb_ func156
theorem hb165:YB 165:=hb_ func165
theorem hb166:YB 166:=hb_ func166
theorem hb167:YB 167:=hb_ func167
theorem hb168:YB 168:=hb_ func168
theorem hb169:YB 169:=hb_ func169
theorem hb170:YB 170:=hb_ func170
theorem hb171:YB 171:=hb_ func171
theorem hb172:YB 172:=hb_ func172
theorem hb173:YB 173:=hb_ func173
theorem hb174:YB 174:=hb_ func174
theorem hb176:YB 176:=hb_ func176
theorem hb177:YB 177:=hb_ func177
theorem hb178:YB 178:=hb_ func178
theorem hb184:YB 184:=hb_ func184
theorem hb185:YB 185:=hb_ func185
theorem hb186:YB 186:=hb_ func186
theorem hb189:YB 189:=hb_ func189
theorem hb190:YB 190:=hb_ func190
theorem hb191:YB 191:=hb_ func191
theorem hb192:YB 192:=hb_ func192
theorem hb194:YB 194:=hb_ func194
theorem hb195:YB 195:=hb_ func195
theorem hb196:YB 196:=hb_ func196
theorem hb197:YB 197:=hb_ func197
theorem hb213:YB 213:=hb_ func213
theorem hb216:YB 216:=hb_ func216
theorem hb217:YB 217:=hb_ func217
theorem hb218:YB 218:=hb_ func218
theorem hb219:YB 219:=hb_ func219
theorem hb220:YB 220:=hb_ func220
theorem hb221:YB 221:=hb_ func221
theorem hb222:YB 222:=hb_ func222
theorem hb223:YB 223:=hb_ func223
theorem hb234:YB 234:=hb_ func234
theorem hb235:YB 235:=hb_ func235
theorem hb236:YB 236:=hb_ func236
theorem hb237:YB 237:=hb_ func237
theorem hb238:YB 238:=hb_ func238
theorem hb239:YB 239:=hb_ func239
theorem hb240:YB 240:=hb_ func240
theorem hb241:YB 241:=hb_ func241
theorem hb242:YB 242:=hb_ func242
theorem hb243:YB 243:=hb_ func243
theorem hb245:YB 245:=hb_ func245
theorem hb246:YB 246:=hb_ func246
theorem hb252:YB 252:=hb_ func252
theorem hb253:YB 253:=hb_ func253
theorem hb254:YB 254:=hb_ func254
theorem hb255:YB 255:=hb_ func255
theorem hb256:YB 256:=hb_ func256
theorem hb257:YB 257:=hb_ func257
theorem hb258:YB 258:=hb_ func258
theorem hb259:YB 259:=hb_ func259
theorem hb260:YB 260:=hb_ func260
theorem hb265:YB 265:=hb_ func265
theorem hb266:YB 266:=hb_ func266
theorem hb267:YB 267:=hb_ func267
theorem hb268:YB 268:=hb_ func268
theorem hb269:YB 269:=hb_ func269
theorem hb270:YB 270:=hb_ func270
theorem hb271:YB 271:=hb_ func271
theorem hb272:YB 272:=hb_ func272
theorem hb280:YB 280:=hb_ func280
theorem hb281:YB 281:=hb_ func281
theorem hb282:YB 282:=hb_ func282
theorem hb283:YB 283:=hb_ func283
theorem hb284:YB 284:=hb_ func284
theorem hb285:YB 285:=hb_ func285
theorem hb293:YB 293:=hb_ func293
theorem hb295:YB 295:=hb_ func295
theorem hb296:YB 296:=hb_ func296
theorem hb297:YB 297:=hb_ func297
theorem hb298:YB 298:=hb_ func298
theorem hb306:YB 306:=hb_ func306
theorem hb307:YB 307:=hb_ func307
theorem hb309:YB 309:=hb_ func309
theorem hb310:YB 310:=hb_ func310
theorem hb311:YB 311:=hb_ func311
theorem hb312:YB 312:=hb_ func312
theorem hb313:YB 313:=hb_ func313
theorem hb314:YB 314:=hb_ func314
theorem hb315:YB 315:=hb_ func315
theorem hb324:YB 324:=hb_ func324
theorem hb325:YB 325:=hb_ func325
theorem hb330:YB 330:=hb_ func330
theorem hb331:YB 331:=hb_ func331
theorem hb332:YB 332:=hb_ func332
theorem hb333:YB 333:=hb_ func333
theorem hb344:YB 344:=hb_ func344
theorem hb345:YB 345:=hb_ func345
theorem hb346:YB 346:=hb_ func346
theorem hb349:YB 349:=hb_ func349
theorem hb350:YB 350:=hb_ func350
theorem hb352:YB 352:=hb_ func352
theorem hb353:YB 353:=hb_ func353
theorem hb364:YB 364:=hb_ func364
theorem hb368:YB 368:=hb_ func368
theorem hb369:YB 369:=hb_ func369
theorem hb378:YB 378:=hb_ func378
theorem hb379:YB 379:=hb_ func379
theorem hb380:YB 380:=hb_ func380
theorem hb384:YB 384:=hb_ func384
theorem hb385:YB 385:=hb_ func385
theorem hb386:YB 386:=hb_ func386
theorem hb388:YB 388:=hb_ func388
end Go.Proofs.YtjiendlfobjanaaGreatDoor
namespace Go.Proofs.YtjiendlfobjanaaGreatDoor
open Go Go.RowKit Go.Proofs Tryz
set_option maxRecDepth 10000
set_option maxHeartbeats 2000000
attribute [local irreducible] Runs WPE CallK Ret
variable {cap k n:Nat} {ds:List Nat} {p:Option Addr} {w:World}
theorem zHA (w:World):Ret prog 106 #[] w (fun v w'=>IsW w' v 1):=by
 refine J0 2 func106 rfl (rj fun K=>ag (ru K (rj fun K => ?_)));refine K1 (zR (cs:=[.int .u64 1]) zDM info164' (by decide) (by decide) (by kernel_rfl) fun b w1 hb hE hB hs => ?_);replace E0:=E0.trans hE;refine ag (ru K (zE (en rfl E0 ?_)));refine ⟨some ⟨b,0,none⟩,[1],1,rfl,by decide,fun i hi => ?_,⟨by intro d hd;simp at hd;omega,by simp⟩,rfl⟩;have:i=0:=by simpa using hi
 subst this;exact ⟨b,0,_,rfl,hB,rfl⟩
theorem is1_iff (h:Norm ds):nat64 ds=1↔ds.length=1∧ds.getD 0 0=1:=by
 constructor
 · intro e;have h1:Norm [1]:=⟨by intro d hd;simp at hd;omega,by simp⟩;have:=h.inj h1 (by rw [e];rfl);subst this;exact ⟨rfl,rfl⟩
 · rintro ⟨h1,h2⟩
   match ds,h1 with
   | [d],_=>simp at h2;subst h2;rfl
theorem zGx {x:Value} (hx:IsW w x n):Ret prog 156 #[x] w (fun v _=>v = .bool (decide (n=1))):=by
 obtain ⟨p,ds,cap,rfl,hcap,hrd,hno,hn⟩:=hx;have hi:=is1_iff hno;rw [hn] at hi;by_cases hl:ds.length=1
 · obtain ⟨d,rfl⟩:∃ d,ds=[d]:=by match ds,hl with | [d],_=>exact ⟨d,rfl⟩
   obtain ⟨b,o,cs,rfl,hB,hv⟩:=hrd 0 (by simp);have E0:Ext w w:=Ext.refl w;refine J0 12 func156 rfl (rj fun K=>ag (ru K (rJ fun K=>K1 (zJ zX rfl (K8 rfl (mv (K7 (K2 (zO zX rfl rfl (by decide) (by simp) (K2 (zD zAT rfl hB hv (K2 (zH rfl rfl rfl (pc0 rfl (ag ?_)))))))))))))));refine ru K (zE (en rfl E0 ?_));show Value.bool ((d:Int)==1)=_;congr 1;rw [Bool.eq_iff_iff];simp at hi ⊢;omega
 · have hl':((((ds.length:Nat):Int)==1)==true)=false:=by simp;omega
   have E0:Ext w w:=Ext.refl w;refine J0 12 func156 rfl (rj fun K=>ag (ru K (rJ fun K=>K1 (zJ zX rfl (K8 rfl (mv (zIS hl' (zIS hl' (zIS hl' (zIS hl' (pc0 rfl (ag ?_))))))))))));refine ru K (zE (en rfl E0 ?_));show (if (((ds.length:Nat):Int)==1)=true then _ else Value.bool false)=_;rw [if_neg (by simp;omega)];congr 1;have:¬ n=1:=fun e=>hl (hi.1 e).1;simp [this]
theorem take_zero_last (h:k<ds.length) (h0:ds.getD k 0=0):nat64 (ds.take (k+1))=nat64 (ds.take k):=by
 rw [zDG h,h0];simp
theorem norm_take (hd:Dig ds) (h:k<ds.length) (h0:ds.getD k 0≠0):Norm (ds.take (k+1)):=by
 refine ⟨hd.take _,?_⟩;rw [zFR h,List.getLast?_append];simpa using h0
theorem zNi (hcap:ds.length≤cap) (hrd:Rd w p ds) (hdig:Dig ds) (hbig:ds.length<4611686018427387904):Ret prog 194 #[.slice p ds.length cap] w (fun v _=>∃ k,k≤ds.length∧v = .slice p k cap∧Norm (ds.take k)∧nat64 (ds.take k)=nat64 ds):=by
 have E0:Ext w w:=Ext.refl w;refine J0 21 func194 rfl (rj fun K=>ag (ru K (zA (zG (zo (X:=Nat) (fun k ρ w'=>Keep ρ [(0,.slice p k cap)]∧k≤ds.length∧nat64 (ds.take k)=nat64 ds∧Ext w w'∧Rd w' p ds) (fun k=>k) ds.length ⟨(kp rfl),Nat.le_refl _,by simp,E0,hrd⟩ ?_)))));clear E0 hrd;rintro k ρ1 w1 ⟨hk,hkl,hnk,E0,hrd⟩;refine wpe_k _ hk ?_;clear hk ρ1;refine zA (zA ?_);rcases k with _ | k
 · skip
   refine rI fun K=>K1 (zJ zX rfl (K8 rfl (mv (K3 (K3 (K3 (K3 (K3 (K3 (K3 (pc0 rfl (rl K (zN ?_)))))))))))));refine wcf rfl (zi (zAE (zv (zP (zN (rJ fun K=>ag (ru K (zE (zQ ?_)))))))));exact ⟨rfl,_,zm rfl rfl,E0,0,Nat.zero_le _,rfl,⟨by intro d hd;simp at hd,by simp⟩,hnk⟩
 · obtain ⟨b,o,cs,rfl,hB,hv⟩:=hrd k (by omega);have hg0:decide (((k+1:Nat):Int)>0)=true:=by simp only [decide_eq_true_eq];omega
   have hg:(decide (((k+1:Nat):Int)>0)==true)=true:=by rw [hg0];rfl
   have hw:IntKind.i64.wrap (((k+1:Nat):Int)-1)=(k:Int):=by rw [zAG (by omega) (by omega)];omega
   refine rI fun K=>K1 (zJ zX rfl (K8 rfl (mv (sr_g hg (zF (sr_g hg (zF (sr_g hg (zJ zX rfl (sr_g hg (zH rfl rfl rfl (sr_g hg (zO (ix:=k) zX rfl (congrArg (Value.int .i64) hw) (by omega) (by omega) (sr_g hg (zD zAT rfl hB (by simpa using hv) (sr_g hg (zH rfl rfl rfl (pc0 (b:=true) (congrArg Value.bool hg0) (rl K (zN ?_))))))))))))))))))));refine K0 rfl ?_ ?_<;>intro hc
   · have hz:ds.getD k 0=0:=by simpa [look,look1,ext] using hc
     refine sk (zG (rI fun K=>mv (K1 (zJ zX rfl (K8 rfl (K1 (zCP (h:=k) zX rfl (congrArg (Value.int .i64) hw) (by omega) (by omega) (ag (rl K (zT (zV (⟨rfl,k,⟨(kp rfl),by omega,?_,E0,hrd⟩,by omega⟩))))))))))));rw [← hnk,take_zero_last (by omega) hz]
   · have hz:ds.getD k 0≠0:=by simpa [look,look1,ext] using hc
     refine zi (zAE (zv (zP (zN (rJ fun K=>ag (ru K (zE (en rfl E0 ⟨k+1,hkl,rfl,norm_take hdig (by omega) hz,hnk⟩))))))))
variable {ca cb:Nat} {fd:Nat→Nat→Nat→Nat×Nat} {pa:Option Addr} {xs ys:List Nat}
theorem zIH (x y c:Nat) (hc:c≤1) (w:World):(callFunc 193 #[.int .u64 (x:Int),.int .u64 (y:Int),.int .u64 (c:Int)]).run prog w =
 .ok (.value (.tuple #[.int .u64 (((x+y+c)%18446744073709551616:Nat):Int),.int .u64 (((x+y+c)/18446744073709551616:Nat):Int)])) w:=by
 rw [run_callFunc_extern func193 (by kernel_rfl) (by kernel_rfl) (by kernel_rfl) (e:=add64Entry) (by kernel_rfl),run_add64 x y c (by omega) (by omega) (by omega) (by omega)];simp only [Result.andThen];congr 5<;>omega
theorem zKh (x y b:Nat) (hb:b≤1) (w:World):(callFunc 294 #[.int .u64 (x:Int),.int .u64 (y:Int),.int .u64 (b:Int)]).run prog w =
 .ok (.value (.tuple #[.int .u64 (((x+18446744073709551616-y-b)%18446744073709551616:Nat):Int),.int .u64 ((if x<y+b then 1 else 0:Nat):Int)])) w:=by
 rw [run_callFunc_extern func294 (by kernel_rfl) (by kernel_rfl) (by kernel_rfl) (e:=sub64Entry) (by kernel_rfl),run_sub64 x y b hb];rfl
def zAM (fd:Nat→Nat→Nat→Nat×Nat) (xs ys:List Nat):Nat→List Nat×Nat
 | 0=>([],0)
 | i+1=>((zAM fd xs ys i).1++[(fd (xs.getD i 0) (ys.getD i 0) (zAM fd xs ys i).2).1],(fd (xs.getD i 0) (ys.getD i 0) (zAM fd xs ys i).2).2)
theorem zAn (fd:Nat→Nat→Nat→Nat×Nat) (xs ys:List Nat):∀ i,(zAM fd xs ys i).1.length=i
 | 0=>rfl
 | i+1=>by simp [zAM,zAn fd xs ys i]
theorem zHE (hdx:Dig xs) (hdy:Dig ys) (h:∀ x y c,x<18446744073709551616→y<18446744073709551616→c≤1→(fd x y c).2≤1) (i:Nat):(zAM fd xs ys i).2≤1:=by
 induction i with
 | zero=>exact Nat.zero_le _
 | succ i ih=>exact h _ _ _ (hdx.getD i) (hdy.getD i) ih
theorem zGM (l:List Nat) (n d:Nat):(l++List.replicate (n+1) 0).set l.length d=(l++[d])++List.replicate n 0:=by
 rw [List.set_append_right _ _ (Nat.le_refl _)];simp [List.replicate_succ]
theorem zGX {pb:Option Addr} {g:Nat} (ha:Rd w pa xs) (hb:Rd w pb ys) (hla:xs.length<17592186044416) 
 (hdx:Dig xs) (hdy:Dig ys)
 (hdo:∀ (x y c:Nat),x<18446744073709551616→y<18446744073709551616→c≤1→∀ w,(callFunc g #[.int .u64 (x:Int),.int .u64 (y:Int),.int .u64 (c:Int)]).run prog w = .ok (.value (.tuple #[.int .u64 ((fd x y c).1:Nat),.int .u64 ((fd x y c).2:Nat)])) w)
 (hfd:∀ x y c,x<18446744073709551616→y<18446744073709551616→c≤1→(fd x y c).2≤1) :
 Ret prog 293 #[.slice pa xs.length ca,.slice pb ys.length cb,.func (.func g) #[] #[]] w (fun v w'=>∃ b,w.heap.size≤b∧v = .slice (some ⟨b,0,none⟩) (xs.length+1) (xs.length+1)∧Blk w' b 164 (dv ((zAM fd xs ys xs.length).1++[(zAM fd xs ys xs.length).2]))):=by
 have hc1:∀ i,(zAM fd xs ys i).2≤1:=zHE hdx hdy hfd;have E0:Ext w w:=Ext.refl w;refine J0 49 func293 rfl (rj fun K=>ag (ru K (rJ fun K=>K1 (zJ zX rfl (K8 rfl ?_)))));have hw1:IntKind.i64.wrap (((xs.length:Nat):Int)+1)=((xs.length+1:Nat):Int):=by rw [zAG (by omega) (by omega)];omega
 refine K1 (zAg zDM zFX rfl (congrArg (Value.int .i64) hw1) (congrArg (Value.int .i64) hw1) (by omega) (by omega) (by omega) fun b w1 hb1 hE hB hs => ?_);have hgb:w.heap.size≤b:=by rw [hb1];exact E0.size
 have hna:=ha.ne (Nat.le_of_eq hb1.symm);have hnb:=hb.ne (Nat.le_of_eq hb1.symm);replace E0:=E0.trans hE;replace ha:=ha.ext hE;replace hb:=hb.ext hE;clear hE hs hb1;rw [show ((xs.length+1:Nat):Int).toNat=xs.length+1 from by omega,show (Value.int IntKind.u64 0).cells.toList=[Value.int IntKind.u64 0] from rfl,zCL] at hB;refine ag (ru K (rj fun K=>ag (ru K (zA (rJ fun K=>K1 (zJ zX rfl (mv (ru K (zG ?_)))))))));have slot17:((xs.length+1:Nat):Int).toNat=xs.length+1:=by omega
 refine zo (X:=Nat) (fun i ρ w'=>Keep ρ [(0,.slice pa xs.length ca),(1,.slice pb ys.length cb),(2,.func (.func g) #[] #[]),(7,.slice (some ⟨b,0,none⟩) (xs.length+1) (xs.length+1)),(8,.int .u64 ((zAM fd xs ys i).2:Nat)),(16,.slice pa xs.length ca),(17,.int .i64 (xs.length:Nat)),(18,.int .i64 (i:Nat))]∧i≤xs.length∧Ext w w'∧Rd w' pa xs∧Rd w' pb ys∧Blk w' b 164 (dv ((zAM fd xs ys i).1++List.replicate (xs.length+1-i) 0))) (fun i=>xs.length-i) 0 ⟨(kp rfl),Nat.zero_le _,E0,ha,hb,hB⟩ ?_;clear E0 ha hb hB;rintro i ρ1 w1 ⟨hk,hil,E0,ha,hb,hB⟩;refine wpe_k _ hk ?_;clear hk ρ1;refine rj fun K=>K8 rfl (ru K (zA ?_));refine K0 rfl ?_ ?_<;>intro hc
 · have hlt:i<xs.length:=by simpa [look,look1,ext] using hc
   clear hc;obtain ⟨b2,o2,cs2,hpa2,hB2,hv2⟩:=ha i hlt;refine sk (zA (zG (rJ fun K=>K1 (zO (b:=b2) (o:=o2) zX (congrArg (fun p=>Value.slice p xs.length ca) hpa2) rfl (by omega) (by omega) (K1 (zD zAT rfl hB2 (by simpa using hv2) (ag (ag (ru K (rj fun K=>ag (ru K (zCJ (fun ρ w'=>Keep ρ [(0,.slice pa xs.length ca),(1,.slice pb ys.length cb),(2,.func (.func g) #[] #[]),(7,.slice (some ⟨b,0,none⟩) (xs.length+1) (xs.length+1)),(8,.int .u64 ((zAM fd xs ys i).2:Nat)),(16,.slice pa xs.length ca),(17,.int .i64 (xs.length:Nat)),(18,.int .i64 (i:Nat)),(9,.int .i64 (i:Nat)),(10,.int .u64 (xs.getD i 0:Nat)),(11,.int .u64 (ys.getD i 0:Nat))]∧w'=w1) ?_ ?_))))))))))))
   · refine rJ fun K=>mv (K1 (zJ zX rfl (K8 rfl (ru K ?_))));refine K0 rfl ?_ ?_<;>intro hc
     · have hltb:i<ys.length:=by simpa [look,look1,ext] using hc
       clear hc;obtain ⟨b3,o3,cs3,hpb3,hB3,hv3⟩:=hb i hltb;exact rI fun K=>mv (K1 (zO (b:=b3) (o:=o3) zX (congrArg (fun p=>Value.slice p ys.length cb) hpb3) rfl (by omega) (by omega) (K1 (zD zAT rfl hB3 (by simpa using hv3) (ag (rl K (zV ⟨rfl,(kp rfl),rfl⟩)))))))
     · have hltb:¬ i<ys.length:=by simpa [look,look1,ext] using hc
       refine zz (zV ?_);exact ⟨rfl,⟨rfl,rfl,rfl,rfl,rfl,rfl,rfl,rfl,rfl,rfl,rfl,rfl,rfl,rfl,rfl,rfl,rfl,rfl,rfl,rfl,rfl,(by simp only [look1,ext,look,List.getD_eq_getElem?_getD,List.getElem?_eq_none (Nat.le_of_not_lt hltb)];rfl),trivial⟩,rfl⟩
   · rintro ρ2 w2 ⟨hk,rfl⟩;refine wpe_k _ hk ?_;clear hk ρ2;refine rI fun K=>mv (mv (mv (mv (mv (K1 (runs_callEV rfl (hdo (xs.getD i 0) (ys.getD i 0) _ (hdx.getD i) (hdy.getD i) (hc1 i) _) (mv (xt rfl (xt rfl (K1 (zO (b:=b) (o:=0) zX rfl rfl (by omega) (by omega) ?_)))))))))));refine K1 (zZ zCU rfl hB rfl (by simp [zAl,zAn]<;>omega) (by decide) rfl fun w2 hU hN => ?_);refine ag (rl K (zT (zN (K6 fun K=>K8 rfl (mv (rl K (zV ?_)))))));have h2:=zBh (i:=i) (d:=(fd (xs.getD i 0) (ys.getD i 0) (zAM fd xs ys i).2).1) hN (by simp);have h3:=zGM (zAM fd xs ys i).1 (xs.length-i) (fd (xs.getD i 0) (ys.getD i 0) (zAM fd xs ys i).2).1;rw [zAn] at h3;rw [show xs.length+1-i=xs.length-i+1 from by omega,h3] at h2;refine ⟨rfl,i+1,⟨⟨rfl,rfl,rfl,rfl,rfl,rfl,rfl,rfl,rfl,rfl,rfl,rfl,rfl,rfl,rfl,congrArg (Value.int .i64) (zAD (by omega)),trivial⟩,by omega,E0.upd hU hgb,ha.upd' hU hna,hb.upd' hU hnb,?_⟩,by omega⟩;rw [show xs.length+1-(i+1)=xs.length-i from by omega];exact h2
 · have hge:¬ i<xs.length:=by simpa [look,look1,ext] using hc
   obtain rfl:i=xs.length:=by omega
   refine zi (zAE (zv (zP (zN (rJ fun K=>mv (K1 (zJ zX rfl (mv (K1 (zO (b:=b) (o:=0) zX rfl rfl (by omega) (by omega) ?_))))))))));refine K1 (zZ zCU rfl hB rfl (by simp [zAl,zAn]<;>omega) (by decide) rfl fun w2 hU hN => ?_);refine ru K (rJ fun K=>ag (ru K (zE (en rfl (E0.upd hU hgb) ⟨b,hgb,rfl,?_⟩))));have h2:=zBh (i:=xs.length) (d:=(zAM fd xs ys xs.length).2) hN (by simp);have h3:=zGM (zAM fd xs ys xs.length).1 0 (zAM fd xs ys xs.length).2;rw [zAn] at h3;rw [show xs.length+1-xs.length=0+1 from by omega,h3] at h2;simpa using h2
variable {X Y b c:Nat}
def Fit (n:Nat):Prop:=n.log2<8796093022208
theorem Norm.fit (h:Norm ds) (hf:Fit (nat64 ds)):ds.length≤137438953473:=h.len_le hf
theorem Rd.of_blk (h:Blk w b 164 (dv ds)):Rd w (some ⟨b,0,none⟩) ds:=fun i hi=>⟨b,0,_,rfl,h,by rw [Nat.zero_add];exact zEa ds i hi⟩
theorem Rd.take (h:Rd w p ds) (k:Nat):Rd w p (ds.take k):=fun i hi=>by
 have hk:i<k∧i<ds.length:=by simp at hi;omega
 obtain ⟨b,o,cs,h1,h2,h3⟩:=h i hk.2;refine ⟨b,o,cs,h1,h2,?_⟩;rw [h3];simp [hk.1]
theorem zEC (hn:ds.length=n) (hcap:n≤cap) (hrd:Rd w p ds) (hdig:Dig ds) (hbig:n<4611686018427387904):Ret prog 194 #[.slice p n cap] w (fun v w'=>IsW w' v (nat64 ds)):=by
 subst hn;exact (zNi hcap hrd hdig hbig).mono fun v w' hx ⟨k,hk,hv,hn,he⟩=>⟨p,ds.take k,cap,by rw [hv];simp [Nat.min_eq_left hk],by simp;omega,(hrd.ext hx).take k,hn,he⟩
def fAdd (x y c:Nat):Nat×Nat:=((x+y+c)%18446744073709551616,(x+y+c)/18446744073709551616)
def fSub (x y b:Nat):Nat×Nat:=((x+18446744073709551616-y-b)%18446744073709551616,if x<y+b then 1 else 0)
theorem zEB {fd:Nat→Nat→Nat→Nat×Nat} (h:∀ x y c,(fd x y c).1<18446744073709551616) (xs ys:List Nat):∀ i,Dig (zAM fd xs ys i).1
 | 0=>by intro d hd;simp [zAM] at hd
 | i+1=>by
  intro d hd;simp only [zAM,List.mem_append,List.mem_singleton] at hd;rcases hd with hd | rfl
  · exact zEB h xs ys i d hd
  · exact h _ _ _
theorem nat64_take_succ' (ds:List Nat) (k:Nat):nat64 (ds.take (k+1))=nat64 (ds.take k)+18446744073709551616^k*ds.getD k 0:=by
 by_cases h:k<ds.length
 · exact zDG h
 · rw [List.take_of_length_le (by omega),List.take_of_length_le (by omega)];simp [List.getElem?_eq_none (Nat.le_of_not_lt h)]
theorem zHb (xs ys:List Nat):∀ i,nat64 (zAM fAdd xs ys i).1+18446744073709551616^i*(zAM fAdd xs ys i).2=nat64 (xs.take i)+nat64 (ys.take i)
 | 0=>by simp [zAM,nat64]
 | i+1=>by
  have ih:=zHb xs ys i;rw [nat64_take_succ' xs,nat64_take_succ' ys];simp only [zAM];rw [zBI,zAn];generalize (zAM fAdd xs ys i).2=c at *;generalize xs.getD i 0=x;generalize ys.getD i 0=y;simp only [fAdd,nat64,Nat.mul_zero,Nat.add_zero,Nat.pow_succ];have hdm:(x+y+c)=(x+y+c)%18446744073709551616+18446744073709551616*((x+y+c)/18446744073709551616):=(Nat.mod_add_div _ _).symm;generalize (x+y+c)%18446744073709551616=r at *;generalize (x+y+c)/18446744073709551616=q at *;generalize 18446744073709551616^i=B at *;grind
theorem zLc {x y:Nat} (hx:x<18446744073709551616) (hy:y<18446744073709551616) (hc:c≤1):(fSub x y c).1+(y+c)=x+18446744073709551616*(fSub x y c).2:=by
 simp only [fSub];by_cases h:x<y+c
 · rw [if_pos h];omega
 · rw [if_neg h];omega
theorem zHo (x y c:Nat):(fSub x y c).2≤1:=by
 simp only [fSub];by_cases h:x<y+c
 · rw [if_pos h];omega
 · rw [if_neg h];omega
theorem sub_step {B R x y r q:Nat} (ih:R+Y=X+B*c) (key:r+(y+c)=x+18446744073709551616*q):R+B*r+(Y+B*y)=X+B*x+B*(18446744073709551616*q):=by
 have k2:B*(r+(y+c))=B*(x+18446744073709551616*q):=by rw [key]
 simp only [Nat.mul_add] at k2;omega
theorem carryAt_sub (xs ys:List Nat) (hx:Dig xs) (hy:Dig ys) (i:Nat):nat64 (zAM fSub xs ys i).1+nat64 (ys.take i)=nat64 (xs.take i)+18446744073709551616^i*(zAM fSub xs ys i).2:=by
 induction i with
 | zero=>simp [zAM,nat64]
 | succ i ih =>
  have key:=zLc (hx.getD i) (hy.getD i) (zHE hx hy (fun x y c _ _ _=>zHo x y c) i);rw [nat64_take_succ' xs,nat64_take_succ' ys];simp only [zAM];rw [zBI,zAn,Nat.pow_succ,Nat.mul_assoc];generalize fSub (xs.getD i 0) (ys.getD i 0) (zAM fSub xs ys i).2=r at *;generalize (zAM fSub xs ys i).2=c at *;have h:=sub_step ih key;rw [zDl];exact h
theorem zIe (hl:ys.length≤xs.length):nat64 ((zAM fAdd xs ys xs.length).1++[(zAM fAdd xs ys xs.length).2])=nat64 xs+nat64 ys:=by
 have h:=zHb xs ys xs.length;rw [List.take_length,List.take_of_length_le hl] at h;rw [zBI,zAn];simpa [nat64] using h
theorem zLD {x y:Nat} (hx:x<18446744073709551616) (hy:y<18446744073709551616) (hc:c≤1):(fAdd x y c).2≤1:=by
 simp only [fAdd];omega
theorem sub_digits (hx:Dig xs) (hy:Dig ys) (hl:ys.length≤xs.length) (hle:nat64 ys≤nat64 xs):nat64 (zAM fSub xs ys xs.length).1=nat64 xs-nat64 ys:=by
 have h:=carryAt_sub xs ys hx hy xs.length;rw [List.take_length,List.take_of_length_le hl] at h;have h1:=zCE _ (zEB (fd:=fSub) (fun x y c=>Nat.mod_lt _ (by decide)) xs ys xs.length);rw [zAn] at h1;have hc:=zHE hx hy (fun x y c _ _ _=>zHo x y c) xs.length;have h2:=zCE ys hy;have h3:18446744073709551616^ys.length≤18446744073709551616^xs.length:=Nat.pow_le_pow_right (by decide) hl;rcases (show (zAM fSub xs ys xs.length).2=0∨(zAM fSub xs ys xs.length).2=1 by omega) with h4 | h4
 · rw [h4] at h;omega
 · rw [h4] at h;omega
variable {d:Nat} {q:Rat}
theorem zEv (hd:d<18446744073709551616):Ret prog 105 #[.int .u64 (d:Int)] w (fun v w'=>IsW w' v d):=by
 refine J0 6 func105 rfl (rj fun K=>ag (ru K (rj fun K=>mv ?_)));refine K1 (zR (cs:=dv [d]) zDM info164' (by decide) (by decide) (by kernel_rfl) fun b w1 hb hE hB hs => ?_);replace E0:=E0.trans hE;refine K1 (j0 E0 hb194 (zEC (ds:=[d]) rfl (Nat.le_refl _) (Rd.of_blk hB) (by intro x hx;simp at hx;omega) (by decide)) fun v1_2 w1 E0 hr => ?_);rw [zDl] at hr;exact ag (ru K (zE (en rfl E0 hr)))
theorem zCH {x:Value} (hx:IsNum w x q):Ret prog 104 #[x] w (fun v w'=>IsW w' v q.den):=by
 obtain ⟨n,d,rfl,hn,hd⟩:=hx;obtain ⟨p,ds,cap,rfl,hcap,hrd,hno,hv⟩:=hd;refine J0 10 func104 rfl (rj fun K => ?_);refine K1 (zk fun b1 w1 hb hE hB1 hs => ?_);have hgb1:w.heap.size≤b1:=by rw [hb];exact E0.size
 replace E0:=E0.trans hE;replace hn:=hn.ext hE;replace hrd:=hrd.ext hE;clear hE hs hb;refine ag (ru K (zA (rj fun K=>K1 (zB zEk rfl (K1 (zD zAf rfl hB1 rfl (K1 (zJ zX rfl (K8 rfl (ru K ?_))))))))));refine K0 rfl ?_ ?_<;>intro hc
 · have h0:ds=[]:=by have:=hc;simpa using this
   have h1:q.den=1:=by
    have h2:(if q.den=1 then 0 else q.den)=0:=by rw [← hv,h0];rfl
    have:=q.den_pos;by_cases h:q.den=1
    · exact h
    · rw [if_neg h] at h2;omega
   refine rj fun K=>K1 (j3 E0 hn.ext hrd.ext hB1.ext hb106 (zHA _) fun v2_0 w2 E0 hn hrd hB1 hr=>ag (ru K (zE (zY (zQ ?_)))));exact ⟨rfl,_,zm rfl rfl,E0,by rw [h1];exact hr⟩
 · have h0:ds≠[]:=by intro e;subst e;have:=hc;simp at this
   have h1:q.den≠1:=by
    intro e;rw [if_pos e] at hv;exact h0 (hno.zero.1 hv)
   refine sk (rj fun K=>K1 (zB zEk rfl (K1 (zD zAf rfl hB1 rfl (ag (ru K (zE (en rfl E0 ⟨p,ds,cap,rfl,hcap,hrd,hno,?_⟩))))))));rw [hv,if_neg h1]
theorem zMh (hx:Dig xs) (hy:Dig ys):Dig ((zAM fAdd xs ys xs.length).1++[(zAM fAdd xs ys xs.length).2]):=by
 intro d hd;rw [List.mem_append,List.mem_singleton] at hd;rcases hd with hd | rfl
 · exact zEB (fun x y c=>Nat.mod_lt _ (by decide)) xs ys _ d hd
 · have:=zHE (fd:=fAdd) hx hy (fun x y c h1 h2 h3=>zLD h1 h2 h3) xs.length;omega
theorem zMi {x y:Value} {m:Nat} (hx:IsW w x m) (hy:IsW w y n) (hm:Fit m) (hn:Fit n):Ret prog 234 #[x,y] w (fun v w'=>IsW w' v (m+n)):=by
 obtain ⟨pa,xs,ca,rfl,hca,ha,hxn,hxv⟩:=hx;obtain ⟨pb,ys,cb,rfl,hcb,hb,hyn,hyv⟩:=hy;subst hxv;subst hyv;have hlx:=hxn.fit hm;have hly:=hyn.fit hn;by_cases hl:xs.length<ys.length
 · skip
   have E0:Ext w w:=Ext.refl w;refine J0 16 func234 rfl (rj fun K=>ag (ru K (zA (rJ fun K=>K1 (zJ zX rfl (mv (K1 (zJ zX rfl (K8 rfl (ru K ?_))))))))));have hcl:decide (((xs.length:Nat):Int)<(ys.length:Nat))=true:=by simp only [decide_eq_true_eq];omega
   refine wct (congrArg Value.bool hcl) (rI fun K=>mv (ag (ag (rl K (zN (rJ fun K=>mv (K1 (zC hb293 (CallK.of_ret (zGX (fd:=fAdd) hb ha (by omega) hyn.1 hxn.1 (fun x y c _ _ hc w=>zIH x y c hc w) (fun _ _ _ h1 h2 h3=>zLD h1 h2 h3)) fun v1 w1 hE hr => ?_) rfl))))))));obtain ⟨b,hgb,rfl,hB⟩:=hr;replace E0:=E0.trans hE;clear hE;refine K1 (j0 E0 hb194 (zEC (by simp [zAn]) (Nat.le_refl _) (Rd.of_blk hB) (zMh hyn.1 hxn.1) (by omega)) fun v3_3 w1 E0 hr => ?_);rw [zIe (by omega)] at hr;refine ag (ru K (zE (zQ ?_)));rw [Nat.add_comm] at hr;exact ⟨rfl,_,zm rfl rfl,E0,hr⟩
 · skip
   have E0:Ext w w:=Ext.refl w;refine J0 16 func234 rfl (rj fun K=>ag (ru K (zA (rJ fun K=>K1 (zJ zX rfl (mv (K1 (zJ zX rfl (K8 rfl (ru K ?_))))))))));have hcl:decide (((xs.length:Nat):Int)<(ys.length:Nat))=false:=by simp only [decide_eq_false_iff_not];omega
   refine wcf (congrArg Value.bool hcl) (sk (rJ fun K=>mv (K1 (zC hb293 (CallK.of_ret (zGX (fd:=fAdd) ha hb (by omega) hxn.1 hyn.1 (fun x y c _ _ hc w=>zIH x y c hc w) (fun _ _ _ h1 h2 h3=>zLD h1 h2 h3)) fun v1 w1 hE hr => ?_) rfl))));obtain ⟨b,hgb,rfl,hB⟩:=hr;replace E0:=E0.trans hE;clear hE;refine K1 (j0 E0 hb194 (zEC (by simp [zAn]) (Nat.le_refl _) (Rd.of_blk hB) (zMh hxn.1 hyn.1) (by omega)) fun v3_3 w1 E0 hr => ?_);rw [zIe (by omega)] at hr;exact ag (ru K (zE (en rfl E0 hr)))
theorem sub_dig (xs ys:List Nat):Dig ((zAM fSub xs ys xs.length).1++[(zAM fSub xs ys xs.length).2]):=by
 intro d hd;rw [List.mem_append,List.mem_singleton] at hd;rcases hd with hd | rfl
 · exact zEB (fun x y c=>Nat.mod_lt _ (by decide)) xs ys _ d hd
 · have:(zAM fSub xs ys xs.length).2≤1:=by
    cases xs.length with
    | zero=>exact Nat.zero_le _
    | succ i=>exact zHo _ _ _
   omega
theorem sub_take:((zAM fSub xs ys xs.length).1++[(zAM fSub xs ys xs.length).2]).take xs.length=(zAM fSub xs ys xs.length).1:=by
 have h:=zAn fSub xs ys xs.length;rw [List.take_append_of_le_length (by omega),List.take_of_length_le (by omega)]
theorem Dig.of_append {a b:List Nat} (h:Dig (a++b)):Dig a:=fun d hd=>h d (List.mem_append_left _ hd)
theorem zNv {x y:Value} {m:Nat} (hx:IsW w x m) (hy:IsW w y n) (hm:Fit m) (hle:n≤m):Ret prog 235 #[x,y] w (fun v w'=>IsW w' v (m-n)):=by
 obtain ⟨pa,xs,ca,rfl,hca,ha,hxn,hxv⟩:=hx;obtain ⟨pb,ys,cb,rfl,hcb,hb,hyn,hyv⟩:=hy;subst hxv;subst hyv;have hlx:=hxn.fit hm;have hll:ys.length≤xs.length:=by
  rcases Nat.lt_or_ge xs.length ys.length with h | h
  · have:=Norm.len_lt hxn.1 hyn h;omega
  · exact h
 refine J0 12 func235 rfl (rj fun K=>ag (ru K (rJ fun K=>mv (K1 (zC hb293 (CallK.of_ret (zGX (fd:=fSub) ha hb (by omega) hxn.1 hyn.1 (fun x y c _ _ hc w=>zKh x y c hc w) (fun x y c _ _ _=>zHo x y c)) fun v1 w1 hE hr => ?_) rfl)))));obtain ⟨b,hgb,rfl,hB⟩:=hr;replace E0:=E0.trans hE;clear hE;refine mv (K1 (zJ zX rfl (K1 (zCP zX rfl rfl (by omega) (by omega) (K1 (j0 E0 hb194 (zEC (ds:=(zAM fSub xs ys xs.length).1) (by simp [zAn]) (by omega) (sub_take (xs:=xs) (ys:=ys) ▸ (Rd.of_blk hB).take xs.length) (Dig.of_append (sub_dig xs ys)) (by omega)) fun v1_6 w1 E0 hr => ?_))))));rw [sub_digits hxn.1 hyn.1 hll hle] at hr;exact ag (ru K (zE (en rfl E0 hr)))
def CmpIs (c:Int) (m n:Nat):Prop:=(c<0↔m<n)∧(c=0↔m=n)
theorem zFG (h:k<ds.length):nat64 (ds.drop k)=ds.getD k 0+18446744073709551616*nat64 (ds.drop (k+1)):=by
 rw [List.drop_eq_getElem_cons h];simp [nat64,h]
theorem nat64_eq_of (hx:Dig xs) (hy:Dig ys) (hl:xs.length=ys.length) (hk:k<xs.length) (hd:nat64 (xs.drop (k+1))=nat64 (ys.drop (k+1))) :
 (xs.getD k 0=ys.getD k 0→nat64 (xs.drop k)=nat64 (ys.drop k))∧(xs.getD k 0<ys.getD k 0→nat64 xs<nat64 ys)∧(ys.getD k 0<xs.getD k 0→nat64 ys<nat64 xs):=by
 have e1:=zFG hk;have e2:=zFG (ds:=ys) (hl ▸ hk);have key:∀ (a b:List Nat),Dig a→Dig b→a.length=b.length→k<a.length→nat64 (a.drop k)<nat64 (b.drop k)→nat64 a<nat64 b:=by
  intro a b ha hb hl hk h;rw [zEK a k,zEK b k];have h1:=zCE _ (ha.take k);simp only [List.length_take,Nat.min_eq_left (Nat.le_of_lt hk)] at h1;rw [← hl,Nat.min_eq_left (Nat.le_of_lt hk)];generalize 18446744073709551616^k=B at *;generalize nat64 (a.drop k)=u at *;generalize nat64 (b.drop k)=v at *;have:B*(u+1)≤B*v:=Nat.mul_le_mul_left _ h;rw [Nat.mul_add,Nat.mul_one] at this;omega
 refine ⟨fun h=>by rw [e1,e2,h,hd],fun h=>key xs ys hx hy hl hk ?_,fun h=>key ys xs hy hx hl.symm (hl ▸ hk) ?_⟩
 · rw [e1,e2,hd];omega
 · rw [e1,e2,hd];omega
theorem zMo {x y:Value} {m:Nat} (hx:IsW w x m) (hy:IsW w y n) (hm:Fit m) (hn:Fit n):Ret prog 174 #[x,y] w (fun v _=>∃ c,v = .int .i64 c∧CmpIs c m n):=by
 obtain ⟨pa,xs,ca,rfl,hca,ha,hxn,hxv⟩:=hx;obtain ⟨pb,ys,cb,rfl,hcb,hb,hyn,hyv⟩:=hy;subst hxv;subst hyv;have hlx:=hxn.fit hm;have hly:=hyn.fit hn;by_cases hl:xs.length=ys.length
 · skip
   have E0:Ext w w:=Ext.refl w;refine J0 41 func174 rfl (rj fun K=>ag (ru K (zA (rJ fun K=>K1 (zJ zX rfl (mv (K1 (zJ zX rfl (K8 rfl (ru K ?_))))))))));have hcl:(((xs.length:Nat):Int) != (ys.length:Nat))=false:=by simp;omega
   refine wcf (congrArg Value.bool hcl) (sk (zA (rJ fun K=>K1 (zJ zX rfl (K8 rfl (ag (ru K (zG (zo (X:=Nat) (fun k ρ w'=>Keep ρ [(0,.slice pa xs.length ca),(1,.slice pb ys.length cb),(5,.int .i64 (((k:Nat):Int)-1))]∧k≤xs.length∧nat64 (xs.drop k)=nat64 (ys.drop k)∧Ext w w'∧Rd w' pa xs∧Rd w' pb ys) (fun k=>k) xs.length ⟨⟨rfl,rfl,rfl,rfl,rfl,congrArg (Value.int .i64) (zAG (by omega) (by omega)),trivial⟩,Nat.le_refl _,by rw [hl,List.drop_length,← hl,List.drop_length],E0,ha,hb⟩ ?_)))))))));clear E0 ha hb;rintro k ρ1 w1 ⟨hk,hkl,hdk,E0,ha,hb⟩;refine wpe_k _ hk ?_;clear hk ρ1;refine zA (zA ?_);rcases k with _ | k
   · skip
     refine rI fun K=>K8 rfl (rl K (zN (wcf rfl (zi (zAE (zv (zP (zN (rj fun K=>ag (ru K (zE ?_)))))))))));refine en rfl E0 ⟨0,rfl,?_⟩;simp only [List.drop_zero] at hdk;rw [hdk];exact ⟨⟨fun h=>by omega,fun h=>by omega⟩,⟨fun _=>rfl,fun _=>rfl⟩⟩
   · obtain ⟨b1,o1,cs1,hpa1,hB1,hv1⟩:=ha k (by omega);obtain ⟨b2,o2,cs2,hpb2,hB2,hv2⟩:=hb k (by omega);have hkey:=nat64_eq_of hxn.1 hyn.1 hl (by omega) hdk;have hk0:decide ((((k+1:Nat):Int)-1)≥0)=true:=by simp only [decide_eq_true_eq];omega
     have hwk:IntKind.i64.wrap (((k+1:Nat):Int)-1-1)=((k:Nat):Int)-1:=by rw [zAG (by omega) (by omega)];omega
     have hkn:(((k+1:Nat):Int)-1).toNat=k:=by omega
     refine rI fun K=>K8 rfl (rl K (zN (wct (congrArg Value.bool hk0) (sk (zA (zG (zA (zEw mixed rfl rfl fun K hK=>qr rfl (fun wx hE=>zF ⟨rfl,Ext.refl _⟩) (qr rfl (fun wx hE=>zF ⟨rfl,Ext.refl _⟩) (qr rfl (fun wx hE=>zO (b:=b1) (o:=o1) zX (congrArg (fun p=>Value.slice p xs.length ca) hpa1) rfl (by omega) (by omega) ⟨rfl,Ext.refl _⟩) ?_))))))))));refine qr rfl (fun wx hE=>zD zAT rfl (hB1.ext hE) (by rw [hkn];simpa using hv1) ⟨rfl,Ext.refl _⟩) ?_;refine qr rfl (fun wx hE=>zF ⟨rfl,Ext.refl _⟩) (qr rfl (fun wx hE=>zF ⟨rfl,Ext.refl _⟩) (qr rfl (fun wx hE=>zO (b:=b2) (o:=o2) zX (congrArg (fun p=>Value.slice p ys.length cb) hpb2) rfl (by omega) (by omega) ⟨rfl,Ext.refl _⟩) ?_));refine qr rfl (fun wx hE=>zD zAT rfl (hB2.ext hE) (by rw [hkn];simpa using hv2) ⟨rfl,Ext.refl _⟩) ?_;refine qr rfl (fun wx hE=>zH rfl rfl rfl ⟨rfl,Ext.refl _⟩) (hK _ fun wq hE => ?_);replace E0:=E0.trans hE;replace ha:=ha.ext hE;replace hb:=hb.ext hE;replace hB1:=hB1.ext hE;replace hB2:=hB2.ext hE;clear hE;refine zN ?_;refine K0 rfl ?_ ?_<;>intro hc
     · have hc6:=hc;clear hc;refine zA (zA (zEw mixed rfl rfl fun K hK=>qr rfl (fun wx hE=>zF ⟨rfl,Ext.refl _⟩) (qr rfl (fun wx hE=>zF ⟨rfl,Ext.refl _⟩) (qr rfl (fun wx hE=>zO (b:=b1) (o:=o1) zX (congrArg (fun p=>Value.slice p xs.length ca) hpa1) rfl (by omega) (by omega) ⟨rfl,Ext.refl _⟩) ?_))));refine qr rfl (fun wx hE=>zD zAT rfl (hB1.ext hE) (by rw [hkn];simpa using hv1) ⟨rfl,Ext.refl _⟩) ?_;refine qr rfl (fun wx hE=>zF ⟨rfl,Ext.refl _⟩) (qr rfl (fun wx hE=>zF ⟨rfl,Ext.refl _⟩) (qr rfl (fun wx hE=>zO (b:=b2) (o:=o2) zX (congrArg (fun p=>Value.slice p ys.length cb) hpb2) rfl (by omega) (by omega) ⟨rfl,Ext.refl _⟩) ?_));refine qr rfl (fun wx hE=>zD zAT rfl (hB2.ext hE) (by rw [hkn];simpa using hv2) ⟨rfl,Ext.refl _⟩) ?_;refine qr rfl (fun wx hE=>zH rfl rfl rfl ⟨rfl,Ext.refl _⟩) (hK _ fun wq hE => ?_);replace E0:=E0.trans hE;replace ha:=ha.ext hE;replace hb:=hb.ext hE;replace hB1:=hB1.ext hE;replace hB2:=hB2.ext hE;clear hE;refine zN ?_;refine K0 rfl ?_ ?_<;>intro hc
       · have hlt:xs.getD k 0<ys.getD k 0:=t_lt hc;refine rj fun K=>ag (ru K (zE (zY (zh (zY (zAr (zh (zY (en rfl E0 ⟨-1,rfl,?_⟩)))))))));have:=hkey.2.1 hlt;exact ⟨⟨fun _=>this,fun _=>by omega⟩,⟨fun e=>by omega,fun e=>by omega⟩⟩
       · have hlt:ys.getD k 0≤xs.getD k 0:=f_lt hc;have hne:xs.getD k 0≠ys.getD k 0:=t_bne hc6;refine sk (rj fun K=>ag (ru K (zE (zh (zY (zAr (zh (zY (en rfl E0 ⟨1,rfl,?_⟩)))))))));have:=hkey.2.2 (by omega);exact ⟨⟨fun _=>by omega,fun _=>by omega⟩,⟨fun e=>by omega,fun e=>by omega⟩⟩
     · have heq:xs.getD k 0=ys.getD k 0:=f_bne hc;exact zz (zT (zN (rI fun K=>K8 rfl (ag (rl K (zV (⟨rfl,k,⟨⟨rfl,rfl,rfl,rfl,rfl,congrArg (Value.int .i64) hwk,trivial⟩,by omega,hkey.1 heq,E0,ha,hb⟩,by omega⟩)))))))
 · skip
   have E0:Ext w w:=Ext.refl w;refine J0 41 func174 rfl (rj fun K=>ag (ru K (zA (rJ fun K=>K1 (zJ zX rfl (mv (K1 (zJ zX rfl (K8 rfl (ru K ?_))))))))));have hcl:(((xs.length:Nat):Int) != (ys.length:Nat))=true:=by simp;omega
   refine wct (congrArg Value.bool hcl) (rJ fun K=>K1 (zJ zX rfl (mv (K1 (zJ zX rfl (K8 rfl (ag (ru K (zE (zY (en rfl E0 ⟨_,rfl,?_⟩)))))))))));rw [zAG (by omega) (by omega)];rcases Nat.lt_or_gt_of_ne hl with h | h
   · have:=Norm.len_lt hxn.1 hyn h;exact ⟨⟨fun _=>this,fun _=>by omega⟩,⟨fun e=>by omega,fun e=>by omega⟩⟩
   · have:=Norm.len_lt hyn.1 hxn h;exact ⟨⟨fun _=>by omega,fun _=>by omega⟩,⟨fun e=>by omega,fun e=>by omega⟩⟩
end Go.Proofs.YtjiendlfobjanaaGreatDoor
namespace Go.Proofs
open Go.Shelf
def Tryz.lays156_ren:Go.Shelf.Ren:=⟨fun | 156=>243 | 165=>301 | 166=>302 | 169=>304 | 240=>336 | 241=>337 | 276=>360 | 277=>361 | n=>n,fun | 31=>304 | 9=>9 | 3=>3 | 4=>4 | 0=>0 | 20=>20 | 72=>356 | 76=>360 | 70=>354 | 37=>109 | 75=>359 | 127=>387 | 164=>409 | 5=>5 | 80=>221 | n=>n,fun | n=>n⟩
theorem Tryz.lays156:Go.Proofs.Lays.n156 Tryz.prog Tryz.lays156_ren:=by constructor<;>intros<;>kernel_rfl
theorem Tryz.Builder_Extra_156:Builder.Extra Tryz.prog Tryz.lays156_ren:={
 sizeBuilder:=by kernel_rfl
 liesBuilder:=by kernel_rfl
 t5:=Tryz.underlying5
 a5:=Tryz.isAgg5
 z5:=Tryz.sizeOf5
 v5:=Tryz.zeroValue5
 infoByte:=by kernel_rfl
 cellsByte:=by kernel_rfl
 sizeByte:=by kernel_rfl
 neB5:=by decide }
open Go.RowKit in
theorem Tryz.strings_Join (bk o c:Nat) (xs:List ByteArray) (sep:ByteArray) (w:World) (hcells:∀ (j:Nat) x,xs[j]? = some x→w.cell? ⟨bk,o+j,none⟩=some (.string x)) (hbk:bk<w.heap.size) (hN:xs.length≤140737488355328) (hcap:xs.length≤c) (hlen:(Lib.join (xs.map (·.data.toList)) sep.data.toList).length≤140737488355328) :
 Calls Tryz.prog 243 #[.slice (some ⟨bk,o,none⟩) xs.length c,.string sep] w fun e w'=>e = .returned (.string ⟨(Lib.join (xs.map (·.data.toList)) sep.data.toList).toArray⟩)∧Below w.heap.size w w':=Any.strings_Join Tryz.lays156 Tryz.Builder_Extra_156 bk o c xs sep w hcells hbk hN hcap hlen
def Tryz.lays125_ren:Go.Shelf.Ren:=⟨fun | 125=>386 | 128=>396 | 129=>321 | n=>n,fun | 46=>110 | 3=>3 | 51=>384 | 53=>164 | 4=>4 | 5=>5 | 9=>9 | n=>n,fun | n=>n⟩
theorem Tryz.lays125:Go.Proofs.Lays.n125 Tryz.prog Tryz.lays125_ren:=by constructor<;>intros<;>kernel_rfl
theorem Tryz.bits_Len (x:Int) (w:World) (h0:0≤x) (h1:x≤18446744073709551615) :
 Calls Tryz.prog 386 #[.int .u64 x] w fun e w'=>e = .returned (.int .i64 (Lib.bitLen x.toNat))∧w'=w:=Any.bits_Len Tryz.lays125 x w h0 h1
def Tryz.lays134_ren:Go.Shelf.Ren:=⟨fun | 134=>266 | 129=>321 | n=>n,fun | 53=>164 | 3=>3 | 4=>4 | 46=>110 | 5=>5 | 9=>9 | n=>n,fun | n=>n⟩
theorem Tryz.lays134:Go.Proofs.Lays.n134 Tryz.prog Tryz.lays134_ren:=by constructor<;>intros<;>kernel_rfl
theorem Tryz.bits_LeadingZeros64 (x:Int) (w:World) (h0:0≤x) (h1:x≤18446744073709551615) :
 Calls Tryz.prog 266 #[.int .u64 x] w fun e w'=>e = .returned (.int .i64 (64-(Lib.bitLen x.toNat:Int)))∧w'=w:=Any.bits_LeadingZeros64 Tryz.lays134 x w h0 h1
def Tryz.lays103_ren:Go.Shelf.Ren:=⟨fun | 103=>151 | 210=>244 | 206=>305 | n=>n,fun | 9=>9 | 4=>4 | 24=>222 | 3=>3 | n=>n,fun | n=>n⟩
theorem Tryz.lays103:Go.Proofs.Lays.n103 Tryz.prog Tryz.lays103_ren:=by constructor<;>intros<;>kernel_rfl
open Go.RowKit in
theorem Tryz.strings_CutPrefix (s p:ByteArray) (w:World) :
 Calls Tryz.prog 151 #[.string s,.string p] w fun e w'=>e = .returned (.tuple #[.string ⟨(Lib.trimPrefix s.data.toList p.data.toList).toArray⟩,.bool (Lib.hasPrefix s.data.toList p.data.toList)])∧w'=w:=Any.strings_CutPrefix Tryz.lays103 s p w
def Tryz.lays283_ren:Go.Shelf.Ren:=⟨fun | 283=>331 | n=>n,fun | 3=>3 | 9=>9 | 4=>4 | n=>n,fun | n=>n⟩
theorem Tryz.lays283:Go.Proofs.Lays.n283 Tryz.prog Tryz.lays283_ren:=by constructor<;>intros<;>kernel_rfl
open Go.Lib in
theorem Tryz.internal_strconv_small (i:Nat) (h:i<100) (w:World) :
 Calls Tryz.prog 331 #[.int .i64 i] w fun e w'=>e = .returned (.string ⟨(Lib.decDigits i).toArray⟩)∧w'=w:=Any.internal_strconv_small Tryz.lays283 i h w
def Tryz.laysM284_ren:Go.Shelf.Ren:=⟨fun | 284=>332 | 129=>321 | 317=>356 | 318=>357 | n=>n,fun | 53=>164 | 3=>3 | 212=>406 | 0=>0 | 4=>4 | 46=>110 | 5=>5 | 9=>9 | n=>n,fun | 17=>3 | n=>n⟩
theorem Tryz.laysM284:Go.Proofs.LaysM.n284 Tryz.prog Tryz.laysM284_ren:=by constructor;constructor;all_goals (intros;kernel_rfl)
open Go.Lib in
theorem Tryz.internal_strconv_numDigits (u:Nat) (h1:1≤u) (h2:u<18446744073709551616) (w:World) (htab:Lib.TabIs Tryz.prog w "internal/strconv.uint64pow10" .u64 Lib.pow10Tab) :
 Calls Tryz.prog 332 #[.int .u64 u] w fun e w'=>e = .returned (.int .i64 (Lib.nDigits u))∧w'=w:=Any.internal_strconv_numDigits Tryz.laysM284 u h1 h2 w htab
def Tryz.lays285_ren:Go.Shelf.Ren:=⟨fun | 285=>333 | n=>n,fun | 37=>109 | 53=>164 | 3=>3 | 4=>4 | 51=>384 | 9=>9 | 5=>5 | 0=>0 | n=>n,fun | n=>n⟩
theorem Tryz.lays285:Go.Proofs.Lays.n285 Tryz.prog Tryz.lays285_ren:=by constructor<;>intros<;>kernel_rfl
open Go.RowKit Go.Sort Go.Lib in
theorem Tryz.internal_strconv_formatBase10 (blk off cap:Nat) (u:Nat) (d:Array UInt8) (w:World) (hH:Holds (fun (b:UInt8)=>Value.int .u8 (b.toNat:Int)) w blk off d) (hu:u<10^d.size) (hu64:u<18446744073709551616) (hsz:d.size<4611686018427387904) :
 Calls Tryz.prog 333 #[.slice (some ⟨blk,off,none⟩) d.size cap,.int .u64 u] w fun e w' =>
  e = .returned (.tuple #[])∧∃ (n v':Nat) (dk:Array UInt8),w'=(putRow (fun (b:UInt8)=>Value.int .u8 (b.toNat:Int)) w blk off dk).drewN n∧FmtInv d.size u 0 v' dk:=Any.internal_strconv_formatBase10 Tryz.lays285 blk off cap u d w hH hu hu64 hsz
def Tryz.lays219_ren:Go.Shelf.Ren:=⟨fun | 219=>306 | 217=>338 | 225=>339 | 224=>340 | 267=>341 | 266=>362 | 314=>363 | n=>n,fun | 9=>9 | 3=>3 | 4=>4 | 5=>5 | 46=>110 | 146=>385 | 51=>384 | n=>n,fun | 1=>2 | n=>n⟩
theorem Tryz.lays219:Go.Proofs.Lays.n219 Tryz.prog Tryz.lays219_ren:=by constructor<;>intros<;>kernel_rfl
open Go.RowKit Go.Lib in
theorem Tryz.stringslite_Index_one (s:ByteArray) (c:UInt8) (w:World) :
 Calls Tryz.prog 306 #[.string s,.string ⟨#[c]⟩] w fun e w'=>e = .returned (.int .i64 (Lib.indexByte s.data.toList c))∧w'=w:=Any.stringslite_Index_one Tryz.lays219 s c w
def Tryz.lays227_ren:Go.Shelf.Ren:=⟨fun | 227=>344 | n=>n,fun | 9=>9 | 116=>392 | 4=>4 | 0=>0 | 3=>3 | 5=>5 | n=>n,fun | n=>n⟩
theorem Tryz.lays227:Go.Proofs.Lays.n227 Tryz.prog Tryz.lays227_ren:=by constructor<;>intros<;>kernel_rfl
open Go.RowKit Go.Lib in
theorem Tryz.strings_makeASCIISet (hv116:∀ w,(zeroValue 392).run Tryz.prog w = .ok (.agg (Array.replicate 256 (.bool false))) w) (chars:ByteArray) (w:World) (hs:chars.size<4294967281) (hascii:∀ (j:Nat) b,chars.data.toList[j]? = some b→b.toNat<128) :
 Calls Tryz.prog 344 #[.string chars] w fun e w'=>e = .returned (.tuple #[.agg (Lib.setCells chars.data.toList),.bool true])∧w'=w.alloc (.cells (Lib.setCells chars.data.toList) 392):=Any.strings_makeASCIISet Tryz.lays227 hv116 (by kernel_rfl) chars w hs hascii
def Tryz.lays228_ren:Go.Shelf.Ren:=⟨fun | 228=>364 | n=>n,fun | 124=>396 | 5=>5 | 4=>4 | 0=>0 | 116=>392 | n=>n,fun | n=>n⟩
theorem Tryz.lays228:Go.Proofs.Lays.n228 Tryz.prog Tryz.lays228_ren:=by constructor<;>intros<;>kernel_rfl
open Go.RowKit Go.Lib in
theorem Tryz.asciiSet_contains (b:Nat) (x:UInt8) (v:Bool) (w:World) (hc:w.cell? ⟨b,x.toNat,none⟩=some (.bool v)) :
 Calls Tryz.prog 364 #[.pointer (some ⟨b,0,none⟩),.int .u8 x.toNat] w fun e w'=>e = .returned (.bool v)∧w'=w:=Any.asciiSet_contains Tryz.lays228 b x v w hc
def Tryz.lays264_ren:Go.Shelf.Ren:=⟨fun | 264=>192 | n=>n,fun | 53=>164 | 46=>110 | n=>n,fun | n=>n⟩
theorem Tryz.lays264:Go.Proofs.Lays.n264 Tryz.prog Tryz.lays264_ren:=by constructor<;>intros<;>kernel_rfl
open Go.RowKit Go.Lib in
theorem Tryz.bits_Mul64 (x y:Nat) (hx:x<18446744073709551616) (hy:y<18446744073709551616) (w:World) :
 Calls Tryz.prog 192 #[.int .u64 x,.int .u64 y] w fun e w'=>e = .returned (.tuple #[.int .u64 ((x*y/18446744073709551616:Nat):Int),.int .u64 ((x*y%18446744073709551616:Nat):Int)])∧w'=w:=Any.bits_Mul64 Tryz.lays264 x y hx hy w
def Tryz.lays105_ren:Go.Shelf.Ren:=⟨fun | 105=>241 | 212=>299 | 99=>300 | 165=>301 | 166=>302 | 170=>303 | 169=>304 | 263=>335 | 264=>192 | 206=>305 | 240=>336 | 241=>337 | 276=>360 | 277=>361 | n=>n,fun | 9=>9 | 3=>3 | 4=>4 | 20=>20 | 0=>0 | 46=>110 | 109=>351 | 5=>5 | 72=>356 | 76=>360 | 51=>384 | 146=>385 | 53=>164 | 148=>270 | 70=>354 | 37=>109 | 75=>359 | 127=>387 | 164=>409 | 80=>221 | n=>n,fun | n=>n⟩
theorem Tryz.lays105:Go.Proofs.Lays.n105 Tryz.prog Tryz.lays105_ren:=by constructor<;>intros<;>kernel_rfl
theorem Tryz.Builder_Extra_105:Builder.Extra Tryz.prog Tryz.lays105_ren:={
 sizeBuilder:=by kernel_rfl
 liesBuilder:=by kernel_rfl
 t5:=Tryz.underlying5
 a5:=Tryz.isAgg5
 z5:=Tryz.sizeOf5
 v5:=Tryz.zeroValue5
 infoByte:=by kernel_rfl
 cellsByte:=by kernel_rfl
 sizeByte:=by kernel_rfl
 neB5:=by decide }
open Go.RowKit Go.Lib in
theorem Tryz.strings_Repeat (s:ByteArray) (c:Nat) (w:World) (hc:c≤9223372036854775807) (hlen:s.size*c≤140737488355328) :
 Calls Tryz.prog 241 #[.string s,.int .i64 c] w fun e w'=>e = .returned (.string ⟨(Lib.repeatL s.data.toList c).toArray⟩)∧Below w.heap.size w w':=Any.strings_Repeat Tryz.lays105 Tryz.Builder_Extra_105 s c w hc hlen
def Tryz.laysNm217_ren:Go.Shelf.Ren:=⟨fun | 17=>242 | n=>n,fun | 24=>304 | 9=>9 | 3=>3 | 4=>4 | 0=>0 | n=>n,fun | n=>n⟩
theorem Tryz.laysNm217:Go.Proofs.Lays2.n17 Tryz.prog Tryz.laysNm217_ren:=by constructor<;>intros<;>kernel_rfl
open Go.RowKit Go.Lib Go.Sort in
theorem Tryz.slices_Reverse_string (blk off cap:Nat) (zs:List (List UInt8)) (w:World) (hH:Holds encStr w blk off zs.toArray) (hsz:zs.length≤9223372036854775807) :
 Calls Tryz.prog 242 #[.slice (some ⟨blk,off,none⟩) zs.length cap] w fun e w'=>e = .returned (.tuple #[])∧∃ n,w'=putRow encStr (Sort.ahead w n) blk off zs.reverse.toArray:=Any.slices_Reverse_string Tryz.laysNm217 blk off cap zs w hH hsz
end Go.Proofs
namespace Go.Proofs.YtjiendlfobjanaaGreatDoor
open Go Go.RowKit Go.Proofs Tryz
set_option maxRecDepth 10000
set_option maxHeartbeats 2000000
variable {O ds xs ys:List Nat} {X a b c c1 d i j l1 n o:Nat} {w:World}
theorem Mul64_ok {x y:Nat} (hx:x<18446744073709551616) (hy:y<18446744073709551616) (w:World) :
 Ret prog 192 #[.int .u64 (x:Int),.int .u64 (y:Int)] w (fun v w'=>w'=w∧v = .tuple #[.int .u64 ((x*y/18446744073709551616:Nat):Int),.int .u64 ((x*y%18446744073709551616:Nat):Int)]) :=
 (Tryz.bits_Mul64 x y hx hy w).mono fun e w' ⟨he,hw⟩=>⟨_,he,by rw [hw];exact Ext.refl w,hw,rfl⟩
attribute [local irreducible] Runs WPE CallK Ret
theorem zHy:∀ (ds:List Nat) (k d:Nat),k<ds.length→nat64 (ds.set k d)+18446744073709551616^k*ds.getD k 0=nat64 ds+18446744073709551616^k*d
 | x :: ds,0,d,_=>by simp only [List.set_cons_zero,nat64,Nat.pow_zero,Nat.one_mul,List.getD_cons_zero];omega
 | x :: ds,k+1,d,h=>by
  have ih:=zHy ds k d (by simpa using h);simp only [List.set_cons_succ,nat64,List.getD_cons_succ,Nat.pow_succ];generalize 18446744073709551616^k=B at *;generalize ds.getD k 0=e at *;have h1:18446744073709551616*(nat64 (ds.set k d)+B*e)=18446744073709551616*(nat64 ds+B*d):=by rw [ih]
  rw [Nat.mul_add,Nat.mul_add] at h1;have h2:B*18446744073709551616*e=18446744073709551616*(B*e):=by rw [Nat.mul_comm B,Nat.mul_assoc]
  have h3:B*18446744073709551616*d=18446744073709551616*(B*d):=by rw [Nat.mul_comm B,Nat.mul_assoc]
  rw [h2,h3];omega
theorem Dig.set (h:Dig ds) (k:Nat) (hd:d<18446744073709551616):Dig (ds.set k d):=fun x hx=>by
 rcases List.mem_or_eq_of_mem_set hx with h1 | h1
 · exact h x h1
 · rw [h1];exact hd
theorem zJS {x y:Nat} (hx:x<18446744073709551616) (hy:y<18446744073709551616) (w:World) :
 Ret prog 192 #[.int .u64 (x:Int),.int .u64 (y:Int)] w (fun v w'=>w'=w∧∃ hi lo:Nat,v = .tuple #[.int .u64 (hi:Int),.int .u64 (lo:Int)]∧lo+18446744073709551616*hi=x*y∧lo<18446744073709551616) :=
 (Mul64_ok hx hy w).mono fun v w' _ ⟨h1,h2⟩=>⟨h1,_,_,h2,Nat.mod_add_div _ _,Nat.mod_lt _ (by decide)⟩
theorem zFi (x y c:Nat) (hx:x<18446744073709551616) (hy:y<18446744073709551616) (hc:c≤1) :
 ∃ s k:Nat,(∀ w,(callFunc 193 #[.int .u64 (x:Int),.int .u64 (y:Int),.int .u64 (c:Int)]).run prog w = .ok (.value (.tuple #[.int .u64 (s:Int),.int .u64 (k:Int)])) w)∧s+18446744073709551616*k=x+y+c∧s<18446744073709551616∧k≤1 :=
 ⟨_,_,fun w=>zIH x y c hc w,Nat.mod_add_div _ _,Nat.mod_lt _ (by decide),by omega⟩
theorem zLS (x y c:Nat) (hx:x<18446744073709551616) (hy:y<18446744073709551616) (hc:c≤1) :
 ∃ s k:Nat,(∀ w,(callFunc 294 #[.int .u64 (x:Int),.int .u64 (y:Int),.int .u64 (c:Int)]).run prog w = .ok (.value (.tuple #[.int .u64 (s:Int),.int .u64 (k:Int)])) w)∧s+(y+c)=x+18446744073709551616*k∧s<18446744073709551616∧k≤1 :=
 ⟨(fSub x y c).1,(fSub x y c).2,fun w=>zKh x y c hc w,zLc hx hy hc,Nat.mod_lt _ (by decide),zHo x y c⟩
theorem mul_num {x y hi lo l2 c2:Nat} (hx:x<18446744073709551616) (hy:y<18446744073709551616) (ho:o<18446744073709551616) (hc:c<18446744073709551616)
 (e1:lo+18446744073709551616*hi=x*y) (e2:l1+18446744073709551616*c1=lo+o+0) (e3:l2+18446744073709551616*c2=l1+c+0) :
 hi+c1<18446744073709551616∧hi+c1+c2<18446744073709551616∧l2+18446744073709551616*(hi+c1+c2)=x*y+o+c:=by
 have hxy:x*y≤18446744073709551615*18446744073709551615:=Nat.mul_le_mul (by omega) (by omega);generalize x*y=t at *;omega
theorem mul_step {x y l2 c' N0:Nat} (hlen:i+j<O.length) (h:nat64 O+18446744073709551616^(i+j)*c=N0+18446744073709551616^i*(x*X))
 (hs:l2+18446744073709551616*c'=x*y+O.getD (i+j) 0+c):nat64 (O.set (i+j) l2)+18446744073709551616^(i+(j+1))*c'=N0+18446744073709551616^i*(x*(X+18446744073709551616^j*y)):=by
 have h1:=zHy O (i+j) l2 hlen;rw [← Nat.add_assoc,Nat.pow_succ,Nat.mul_add,Nat.mul_add,← Nat.mul_assoc x,Nat.mul_comm x (_^j),Nat.mul_assoc (_^j),← Nat.mul_assoc (_^i) (_^j),← Nat.pow_add,Nat.mul_assoc];generalize 18446744073709551616^(i+j)=B at *;generalize 18446744073709551616^i*(x*X)=M at *;generalize O.getD (i+j) 0=o at *;generalize x*y=xy at *;have h2:B*(l2+18446744073709551616*c')=B*(xy+o+c):=by rw [hs]
 simp only [Nat.mul_add] at h2;omega
theorem zDg (n:Nat):Dig (List.replicate n 0):=fun d hd=>by rw [List.mem_replicate] at hd;omega
theorem zGf (n k:Nat):(List.replicate n 0).getD k 0=0:=by
 simp only [List.getD_eq_getElem?_getD,List.getElem?_replicate];split<;>rfl
theorem zEL:∀ n,nat64 (List.replicate n 0)=0
 | 0=>rfl
 | n+1=>by rw [List.replicate_succ,nat64,zEL n]
theorem set_zeros {y:Nat} (h:∀ k,i+y≤k→O.getD k 0=0) (hj:j<y):∀ k,i+y≤k→(O.set (i+j) d).getD k 0=0:=fun k hk=>by
 have:=h k hk;simp only [List.getD_eq_getElem?_getD] at this ⊢;rw [List.getElem?_set_ne (by omega)];exact this
theorem mul_zeros {y:Nat} (h:∀ k,i+y≤k→O.getD k 0=0):∀ k,i+1+y≤k→(O.set (i+y) d).getD k 0=0:=fun k hk=>by
 have:=h k (by omega);simp only [List.getD_eq_getElem?_getD] at this ⊢;rw [List.getElem?_set_ne (by omega)];exact this
theorem mul_round (hlen:i+ys.length<O.length) (h:nat64 O+18446744073709551616^(i+ys.length)*c=nat64 (xs.take i)*nat64 ys+18446744073709551616^i*(xs.getD i 0*nat64 ys))
 (hz:∀ k,i+ys.length≤k→O.getD k 0=0):nat64 (O.set (i+ys.length) c)=nat64 (xs.take (i+1))*nat64 ys:=by
 have h1:=zHy O (i+ys.length) c hlen;rw [hz _ (Nat.le_refl _),Nat.mul_zero,Nat.add_zero] at h1;rw [h1,h,nat64_take_succ',Nat.add_mul,Nat.mul_assoc]
theorem wrap_carry (h1:a+b<18446744073709551616) (h2:a+b+c<18446744073709551616):IntKind.u64.wrap (IntKind.u64.wrap ((a:Int)+(b:Int))+(c:Int))=((a+b+c:Nat):Int):=by
 rw [zBv,zBv];omega
theorem zDk {x y:Value} {m:Nat} (hx:IsW w x m) (hy:IsW w y n) (hm:Fit m) (hn:Fit n):Ret prog 103 #[x,y] w (fun v w'=>IsW w' v (m*n)):=by
 obtain ⟨pa,xs,ca,rfl,hca,ha,hxn,hxv⟩:=hx;obtain ⟨pb,ys,cb,rfl,hcb,hb,hyn,hyv⟩:=hy;subst hxv;subst hyv;have hlx:=hxn.fit hm;have hly:=hyn.fit hn;have E0:Ext w w:=Ext.refl w;refine J0 80 func103 rfl (rj fun K=>ag (rm [0,1] K ?_));refine rJ fun K=>K1 (zJ zX rfl (mv (K1 (zJ zX rfl (K8 rfl ?_)))));have hw1:IntKind.i64.wrap (((xs.length:Nat):Int)+((ys.length:Nat):Int))=((xs.length+ys.length:Nat):Int):=by rw [zAG (by omega) (by omega)];omega
 refine K1 (zAg zDM zFX rfl (congrArg (Value.int .i64) hw1) (congrArg (Value.int .i64) hw1) (by omega) (by omega) (by omega) fun b w1 hb1 hE hB hs => ?_);have hgb:w.heap.size≤b:=by rw [hb1];exact E0.size
 have hna:=ha.ne (Nat.le_of_eq hb1.symm);have hnb:=hb.ne (Nat.le_of_eq hb1.symm);replace E0:=E0.trans hE;replace ha:=ha.ext hE;replace hb:=hb.ext hE;clear hE hs hb1;rw [show ((xs.length+ys.length:Nat):Int).toNat=xs.length+ys.length from by omega,show (Value.int IntKind.u64 0).cells.toList=[Value.int IntKind.u64 0] from rfl,zCL] at hB;refine ag (rm [0,1,5] K ?_);refine zA (rJ fun K=>K1 (zJ zX rfl (mv (rm [0,1,5,20,21,22] K ?_))));refine zG ?_;refine zo (X:=Nat) (fun i ρ w'=>Keep ρ [(0,.slice pa xs.length ca),(1,.slice pb ys.length cb),(5,.slice (some ⟨b,0,none⟩) (xs.length+ys.length) (xs.length+ys.length)),(20,.slice pa xs.length ca),(21,.int .i64 (xs.length:Nat)),(22,.int .i64 (i:Nat))]∧i≤xs.length∧Ext w w'∧Rd w' pa xs∧Rd w' pb ys∧∃ O,O.length=xs.length+ys.length∧Dig O∧(∀ k,i+ys.length≤k→O.getD k 0=0)∧nat64 O=nat64 (xs.take i)*nat64 ys∧Blk w' b 164 (dv O)) (fun i=>xs.length-i) 0 ⟨(kp rfl),Nat.zero_le _,E0,ha,hb,List.replicate (xs.length+ys.length) 0,by simp,zDg _,fun k _=>zGf _ _,by rw [zEL];simp [nat64],hB⟩ ?_;clear E0 ha hb hB;rintro i ρ1 w1 ⟨hk,hil,E0,ha,hb,O,hO,hOd,hOz,hOn,hB⟩;refine wpe_k _ hk ?_;clear hk ρ1;refine rj fun K=>K8 rfl (rm [0,1,5,20,21,22,23] K ?_);refine zA ?_;refine K0 rfl ?_ ?_<;>intro hc
 · have hlt:i<xs.length:=t_lt hc;clear hc;obtain ⟨b2,o2,cs2,hpa2,hB2,hv2⟩:=ha i hlt;refine sk (zA (zG (rJ fun K=>K1 (zO (b:=b2) (o:=o2) zX (congrArg (fun p=>Value.slice p xs.length ca) hpa2) rfl (by omega) (by omega) (K1 (zD zAT rfl hB2 (by simpa using hv2) (ag (ag (rm [0,1,5,6,7,20,21,22] K ?_)))))))));refine rj fun K=>ag (rm [0,1,5,6,7,8,20,21,22] K ?_);refine zA (rJ fun K=>K1 (zJ zX rfl (mv (rm [0,1,5,6,7,8,20,21,22,27,28,29] K ?_))));refine zG ?_
   refine zo (X:=Nat×Nat) (fun p ρ w'=>Keep ρ [(0,.slice pa xs.length ca),(1,.slice pb ys.length cb),(5,.slice (some ⟨b,0,none⟩) (xs.length+ys.length) (xs.length+ys.length)),(20,.slice pa xs.length ca),(21,.int .i64 (xs.length:Nat)),(22,.int .i64 (i:Nat)),(6,.int .i64 (i:Nat)),(7,.int .u64 (xs.getD i 0:Nat)),(8,.int .u64 (p.2:Nat)),(27,.slice pb ys.length cb),(28,.int .i64 (ys.length:Nat)),(29,.int .i64 (p.1:Nat))]∧p.1≤ys.length∧p.2<18446744073709551616∧Ext w w'∧Rd w' pa xs∧Rd w' pb ys∧∃ O,O.length=xs.length+ys.length∧Dig O∧(∀ k,i+ys.length≤k→O.getD k 0=0)∧nat64 O+18446744073709551616^(i+p.1)*p.2=nat64 (xs.take i)*nat64 ys+18446744073709551616^i*(xs.getD i 0*nat64 (ys.take p.1))∧Blk w' b 164 (dv O)) (fun p=>ys.length-p.1) (0,0) ⟨(kp rfl),Nat.zero_le _,by decide,E0,ha,hb,O,hO,hOd,fun k hk=>hOz k hk,by rw [hOn];simp [nat64],hB⟩ ?_;clear E0 ha hb hB hOn hOz hOd hO O;rintro ⟨j,c⟩ ρ1 w2 ⟨hk,hjl,hc,E0,ha,hb,O,hO,hOd,hOz,hOn,hB⟩;simp only at hk hjl hc hOn;refine wpe_k _ hk ?_;clear hk ρ1;refine rj fun K=>K8 rfl (rm [0,1,5,6,7,8,20,21,22,27,28,29,30] K ?_);refine zA ?_;refine K0 rfl ?_ ?_<;>intro hc
   · have hc7:=hc;clear hc;rename _<18446744073709551616=>hc;have hjlt:j<ys.length:=t_lt hc7;obtain ⟨b3,o3,cs3,hpb3,hB3,hv3⟩:=hb j hjlt;have hij:IntKind.i64.wrap (((i:Nat):Int)+((j:Nat):Int))=((i+j:Nat):Int):=by rw [zAG (by omega) (by omega)];omega
     have hix:0+((i+j:Nat):Int).toNat*1=i+j:=by omega
     refine sk (zA (zG (rJ fun K=>K1 (zO (b:=b3) (o:=o3) zX (congrArg (fun p=>Value.slice p ys.length cb) hpb3) rfl (by omega) (by omega) (K1 (zD zAT rfl hB3 (by simpa using hv3) (ag (ag (rm [0,1,5,6,7,8,9,10,20,21,22,27,28,29] K ?_)))))))));refine rJ fun K=>mv (K1 (zC hb192 (CallK.of_ret (zJS (hxn.1.getD i) (hyn.1.getD j) _) fun v1 w3 hE hr => ?_) rfl));obtain ⟨rfl,hi,lo,rfl,e1,hlo⟩:=hr;clear hE;obtain ⟨l1,c1,run1,e2,hl1,hc1⟩:=zFi lo (O.getD (i+j) 0) 0 hlo (hOd.getD _) (by decide);obtain ⟨l2,c2,run2,e3,hl2,hc2⟩:=zFi l1 c 0 hl1 hc (by decide);obtain ⟨n1,n2,n3⟩:=mul_num (hxn.1.getD i) (hyn.1.getD j) (hOd.getD (i+j)) hc e1 e2 e3;refine mv (xt rfl (xt rfl (ag (ag (rm [0,1,5,6,7,8,9,11,12,20,21,22,27,28,29] K ?_)))));refine rJ fun K=>mv (mv (mv (K8 rfl (K1 (zO (b:=b) (o:=0) (ix:=((i+j:Nat):Int)) zX rfl (congrArg (Value.int .i64) hij) (by omega) (by omega) ?_)))));refine K1 (zD zAT rfl hB (by rw [hix];exact zEa O (i+j) (by omega)) ?_);refine K1 (zGi (run1 _) rfl (mv (xt rfl (xt rfl (ag (ag (rm [0,1,5,6,7,8,9,11,12,13,20,21,22,27,28,29] K ?_)))))));refine rJ fun K=>mv (K8 rfl (ag (rm [0,1,5,6,7,8,9,11,12,20,21,22,27,28,29] K ?_)))
     refine rJ fun K=>mv (K1 (zGi (run2 _) rfl (mv (xt rfl (xt rfl (ag (ag (rm [0,1,5,6,7,8,9,11,12,13,20,21,22,27,28,29] K ?_))))))));refine rI fun K=>mv (mv (K8 rfl (mv (mv (mv (K8 rfl (K1 (zO (b:=b) (o:=0) (ix:=((i+j:Nat):Int)) zX rfl (congrArg (Value.int .i64) hij) (by omega) (by omega) ?_))))))));refine K1 (zZ zCU rfl hB rfl (by rw [hix,zAl];omega) (by decide) rfl fun w4 hU hN => ?_);have hwc:=wrap_carry n1 n2;refine ag (rl K (zT (zN (K5 [0,1,5,6,7,8,20,21,22,27,28,29] ?_))));refine K6 fun K=>K8 rfl (mv (rl K (zV ?_)));exact ⟨rfl,(j+1,_),⟨⟨rfl,rfl,rfl,rfl,rfl,rfl,rfl,rfl,rfl,rfl,rfl,rfl,rfl,rfl,rfl,rfl,rfl,congrArg (Value.int .u64) hwc,rfl,rfl,rfl,rfl,rfl,congrArg (Value.int .i64) (zAD (by omega)),trivial⟩,by omega,n2,E0.upd hU hgb,ha.upd' hU hna,hb.upd' hU hnb,_,by simp [hO],hOd.set _ hl2,set_zeros hOz (by omega),by rw [zDG hjlt];exact mul_step (by omega) hOn n3,zBh hN hix⟩,by simp only;omega⟩
   · have hc7:=hc;clear hc;rename _<18446744073709551616=>hc;obtain rfl:j=ys.length:=by have:=f_lt hc7;omega
     have hij:IntKind.i64.wrap (((i:Nat):Int)+((ys.length:Nat):Int))=((i+ys.length:Nat):Int):=by rw [zAG (by omega) (by omega)];omega
     have hix:0+((i+ys.length:Nat):Int).toNat*1=i+ys.length:=by omega
     have hO2:=hO;have hO2d:=hOd;have hO2z:=hOz;have hO2n:=hOn;rw [List.take_length] at hO2n;refine zi (zAE (zv (zP (zN (rI fun K=>mv (mv (K1 (zJ zX rfl (K8 rfl (mv (K1 (zO (b:=b) (o:=0) (ix:=((i+ys.length:Nat):Int)) zX rfl (congrArg (Value.int .i64) hij) (by omega) (by omega) ?_))))))))))));refine K1 (zZ zCU rfl hB rfl (by rw [hix,zAl];omega) (by decide) rfl fun w4 hU hN => ?_);refine rl K (zT (zN (K5 [0,1,5,6,7,8,20,21,22,27,28,29] ?_)));exact K6 fun K=>K8 rfl (mv (rl K (zV (⟨rfl,i+1,⟨⟨rfl,rfl,rfl,rfl,rfl,rfl,rfl,rfl,rfl,rfl,rfl,congrArg (Value.int .i64) (zAD (by omega)),trivial⟩,by omega,E0.upd hU hgb,ha.upd' hU hna,hb.upd' hU hnb,_,by simp [hO2],hO2d.set _ hc,mul_zeros hO2z,mul_round (by omega) hO2n hO2z,zBh hN hix⟩,by omega⟩))))
 · have hge:=f_lt hc;obtain rfl:i=xs.length:=by omega
   clear hc;refine zi (zAE (zv (zP (zN (rJ fun K=>K1 (j3 E0 ha.ext hb.ext hB.ext hb194 (zEC hO (Nat.le_refl _) (Rd.of_blk hB) hOd (by omega)) fun v17_1 w1 E0 ha hb hB hr => ?_))))));rw [hOn,List.take_length] at hr;refine ag (rm [0,1,4,5,20,21,22] K ?_);exact zE (en rfl E0 hr)
end Go.Proofs.YtjiendlfobjanaaGreatDoor
namespace Go.Proofs.YtjiendlfobjanaaGreatDoor
open Go Go.RowKit Go.Proofs Tryz
variable {P:Program} {a b c n:Nat} {af:Array Edge} {g:Option (Nat×Bool)} {k':IntKind} {pos:String} {r:Option Nat} {t' ty:TypeId} {w:World} {x y:Operand} {σ:Operand→Value}
theorem zMX (h:n<18446744073709551616):IntKind.u64.wrap (n:Int)=(n:Int):=by rw [zBv];omega
theorem zMW (v:BitVec 64) (h:v.toNat=n):IntKind.u64.wrap (v.toNat:Int)=(n:Int):=by
 rw [h];exact zMX (by rw [← h];exact v.isLt)
theorem zFy (n:Nat) (h:n<18446744073709551616):(BitVec.ofInt 64 (n:Int)).toNat=n:=by
 rw [BitVec.toNat_ofInt];omega
section laws
variable {K:Value→World→Prop} {d:Option Tmp} {t:TypeId}
theorem zCD (c:Nat) (hx:σ x = .int .u64 (a:Int)) (hy:σ y = .int .u64 (b:Int)) (h:a+b=c) (hc:c<18446744073709551616) (hk:K (.int .u64 (c:Int)) w):Runs P r ⟨d,.binOp .add t x y t',ty,pos,af,g⟩ σ w K:=by
 refine zH hx hy rfl ?_;rw [zBv,show ((a:Int)+(b:Int))%18446744073709551616=(c:Int) from by omega];exact hk
theorem zCk (c:Nat) (hx:σ x = .int .u64 (a:Int)) (hy:σ y = .int .u64 (b:Int)) (h:c+b=a) (hc:a<18446744073709551616) (hk:K (.int .u64 (c:Int)) w):Runs P r ⟨d,.binOp .sub t x y t',ty,pos,af,g⟩ σ w K:=by
 refine zH hx hy rfl ?_;rw [zBv,show ((a:Int)-(b:Int))%18446744073709551616=(c:Int) from by omega];exact hk
theorem zJE (c:Nat) (hx:σ x = .int .u64 (a:Int)) (hy:σ y = .int .u64 (b:Int)) (h:IntKind.u64.wrap ((a:Int)-(b:Int))=(c:Int)) (hk:K (.int .u64 (c:Int)) w):Runs P r ⟨d,.binOp .sub t x y t',ty,pos,af,g⟩ σ w K:=by
 refine zH hx hy rfl ?_;rw [h];exact hk
theorem zCT (c:Nat) (hx:σ x = .int .u64 (a:Int)) (hy:σ y = .int .u64 (b:Int)) (h:a*b=c) (hc:c<18446744073709551616) (hk:K (.int .u64 (c:Int)) w):Runs P r ⟨d,.binOp .mul t x y t',ty,pos,af,g⟩ σ w K:=by
 refine zH hx hy rfl ?_;rw [show ((a:Int)*(b:Int))=((c:Nat):Int) from by rw [← h];exact (Int.natCast_mul a b).symm,zMX hc];exact hk
theorem zFJ (c:Nat) (hx:σ x = .int .u64 (a:Int)) (hy:σ y = .int .u64 (b:Int)) (h:a*b%18446744073709551616=c) (hk:K (.int .u64 (c:Int)) w):Runs P r ⟨d,.binOp .mul t x y t',ty,pos,af,g⟩ σ w K:=by
 refine zH hx hy rfl ?_;rw [zBv,show ((a:Int)*(b:Int))%18446744073709551616=((c:Nat):Int) from by rw [← h,← Int.natCast_mul];omega];exact hk
theorem zIN (c:Nat) (hx:σ x = .int .u64 (a:Int)) (hy:σ y = .int .u64 (b:Int)) (hb:b≠0) (h:a/b=c) (hc:c<18446744073709551616) (hk:K (.int .u64 (c:Int)) w):Runs P r ⟨d,.binOp .quo t x y t',ty,pos,af,g⟩ σ w K:=by
 refine zFH hx hy (by omega) ?_;rw [show (a:Int).tdiv (b:Int)=((c:Nat):Int) from by rw [← h];rfl,zMX hc];exact hk
theorem zKp (c:Nat) (hx:σ x = .int .u64 (a:Int)) (hy:σ y = .int .u64 (b:Int)) (hb:b≠0) (h:a%b=c) (hk:K (.int .u64 (c:Int)) w):Runs P r ⟨d,.binOp .rem t x y t',ty,pos,af,g⟩ σ w K:=by
 refine zDW hx hy (by omega) ?_;rw [show (a:Int).tmod (b:Int)=((c:Nat):Int) from by rw [← h];rfl];exact hk
theorem zEq {s:Nat} (c:Nat) (hx:σ x = .int .u64 (a:Int)) (hy:σ y = .int k' (s:Int)) (hs:s≤64) (h:a*2^s%18446744073709551616=c) (hk:K (.int .u64 (c:Int)) w):Runs P r ⟨d,.binOp .shl t x y t',ty,pos,af,g⟩ σ w K:=by
 refine zHP hx hy (by omega) ?_;have e:min (s:Int).toNat IntKind.u64.bits=s:=by simp [IntKind.bits];omega
 rw [e,zBv];have:((a:Int)*2^s)%18446744073709551616=(c:Int):=by
  rw [← h];have:((2:Int)^s)=((2^s:Nat):Int):=by simp
  rw [this,← Int.natCast_mul];omega
 rw [this];exact hk
theorem zDs {s:Nat} (c:Nat) (hx:σ x = .int .u64 (a:Int)) (hy:σ y = .int k' (s:Int)) (hs:s≤64) (h:a/2^s=c) (hk:K (.int .u64 (c:Int)) w):Runs P r ⟨d,.binOp .shr t x y t',ty,pos,af,g⟩ σ w K:=by
 refine runs_shr hx hy (by omega) ?_;have e:min (s:Int).toNat IntKind.u64.bits=s:=by simp [IntKind.bits];omega
 rw [e];have:(a:Int).fdiv (2^s)=(c:Int):=by
  rw [← h,show ((2:Int)^s)=((2^s:Nat):Int) from by simp];rw [Int.fdiv_eq_ediv_of_nonneg _ (Int.natCast_nonneg _)];rfl
 rw [this];exact hk
theorem zKo (c:Nat) (hx:σ x = .int .u64 (a:Int)) (hy:σ y = .int .u64 (b:Int)) (ha:a<18446744073709551616) (hb:b<18446744073709551616) (h:a &&& b=c) (hk:K (.int .u64 (c:Int)) w):Runs P r ⟨d,.binOp .and t x y t',ty,pos,af,g⟩ σ w K:=by
 refine zH hx hy rfl ?_;have:bits .and .u64 (a:Int) (b:Int)=(c:Int):=zMW (BitVec.ofInt 64 (a:Int) &&& BitVec.ofInt 64 (b:Int)) (by rw [BitVec.toNat_and,zFy a ha,zFy b hb,h]);rw [this];exact hk
theorem zJo (c:Nat) (hx:σ x = .int .u64 (a:Int)) (hy:σ y = .int .u64 (b:Int)) (ha:a<18446744073709551616) (hb:b<18446744073709551616) (h:a ||| b=c) (hk:K (.int .u64 (c:Int)) w):Runs P r ⟨d,.binOp .or t x y t',ty,pos,af,g⟩ σ w K:=by
 refine zH hx hy rfl ?_;have:bits .or .u64 (a:Int) (b:Int)=(c:Int):=zMW (BitVec.ofInt 64 (a:Int) ||| BitVec.ofInt 64 (b:Int)) (by rw [BitVec.toNat_or,zFy a ha,zFy b hb,h]);rw [this];exact hk
theorem zCi {S D:TypeId} {u:TypeDesc} {k:IntKind} {n:Int} (hS:P.underlying S=some u) (hD:P.underlying D=some (.int k)) (hx:σ x = .int k' n) (hk:K (.int k (k.wrap n)) w):Runs P r ⟨d,.convert S D x,ty,pos,af,g⟩ σ w K:=by
 refine zl (fun _ e=>by cases e) ?_ hk;simp [execOp,convert,run_underlying hS,run_underlying hD,hx,Conv.intToInt]
theorem zGl {S D:TypeId} {u:TypeDesc} (c:Nat) (hS:P.underlying S=some u) (hD:P.underlying D=some (.int .u64)) (hx:σ x = .int k' (c:Int)) (hc:c<18446744073709551616) (hk:K (.int .u64 (c:Int)) w):Runs P r ⟨d,.convert S D x,ty,pos,af,g⟩ σ w K:=by
 refine zCi hS hD hx ?_;rw [zMX hc];exact hk
end laws
theorem zNG {s:Nat} (h:c<2^s):a*2^s ||| c=a*2^s+c:=by
 rw [Nat.mul_comm];exact (Nat.two_pow_add_eq_or_of_lt h a).symm
theorem zLT:a &&& 4294967295=a%4294967296:=Nat.and_two_pow_sub_one_eq_mod a 32
variable {L Y d n0 n1 rh:Nat}
theorem dinit {U:Nat} (hY:Y=n1*4294967296+n0) (h0:n0<4294967296) (h1:2147483648≤n1) (hn:n1<4294967296) (hU:U<Y) (hd:d<4294967296) :
 (U/n1)*n1+U%n1=U∧U%n1<4294967296∧U*4294967296+d<(U/n1+1)*Y∧U/n1≤4294967297:=by
 have e1:(U/n1)*n1+U%n1=U:=by rw [Nat.mul_comm];exact Nat.div_add_mod U n1
 have e2:U%n1<n1:=Nat.mod_lt _ (by omega);refine ⟨e1,by omega,?_,?_⟩
 · rw [hY,Nat.mul_add,← Nat.mul_assoc,Nat.add_mul (U/n1) 1 n1];have:0≤(U/n1+1)*n0:=Nat.zero_le _;generalize (U/n1)*n1=A at *;generalize (U/n1+1)*n0=C at *;omega
 · rcases Nat.lt_or_ge (U/n1) 4294967298 with h | h
   · omega
   · have:=Nat.mul_le_mul_right n1 h;generalize (U/n1)*n1=A at *;omega
theorem dstep {U q:Nat} (hY:Y=n1*4294967296+n0) (hU:U<Y) (hd:d<4294967296) (hi:q*n1+rh=U) (hc:4294967296≤q∨4294967296*rh+d<q*n0) :
 U*4294967296+d<q*Y∧1≤q:=by
 have h1:U*4294967296+d<q*Y:=by
  rcases hc with h | h
  · have:=Nat.mul_le_mul_right Y h;generalize q*Y=A at *;omega
  · rw [hY,Nat.mul_add,← Nat.mul_assoc];generalize q*n1=A at *;generalize q*n0=C at *;omega
 refine ⟨h1,?_⟩;rcases q with _ | q
 · simp at h1
 · omega
theorem ddown {U q:Nat} (hq:1≤q) (hi:q*n1+rh=U):(q-1)*n1+(rh+n1)=U:=by
 obtain ⟨k,rfl⟩:∃ k,q=k+1:=⟨q-1,by omega⟩;rw [Nat.add_mul] at hi;simp only [Nat.add_sub_cancel];omega
theorem zIl {U q:Nat} (hY:Y=n1*4294967296+n0) (hi:q*n1+rh=U) (hc:q*n0≤4294967296*rh+d):q*Y≤U*4294967296+d:=by
 rw [hY,Nat.mul_add,← Nat.mul_assoc];generalize q*n1=A at *;generalize q*n0=C at *;omega
theorem zLb {q:Nat} (h0:n0<4294967296) (hq:q≤4294967296) (hr:4294967296≤rh):q*n0≤4294967296*rh+d:=by
 have h1:=Nat.mul_le_mul hq (Nat.le_of_lt h0);generalize q*n0=C at *;omega
theorem zNj {U q:Nat} (hU:U<Y) (hd:d<4294967296) (h:q*Y≤U*4294967296+d):q<4294967296:=by
 rcases Nat.lt_or_ge q 4294967296 with h1 | h1
 · exact h1
 · have:=Nat.mul_le_mul_right Y h1;generalize q*Y=A at *;omega
theorem drest {U q:Nat} (hY:Y<18446744073709551616) (h1:q*Y≤U*4294967296+d) (h2:U*4294967296+d<(q+1)*Y)
 (ha:U*4294967296%18446744073709551616=a) (hb:(a+d)%18446744073709551616=b) (hc:q*Y%18446744073709551616=c) :
 IntKind.u64.wrap ((b:Int)-(c:Int))=((U*4294967296+d-q*Y:Nat):Int):=by
 rw [Nat.add_mul] at h2;rw [zBv];generalize q*Y=A at *;omega
theorem dfinal {s y U q1 q0 R1 R d1 d0:Nat} (hy:0<y) (hYs:y*2^s=Y) (hT:U*18446744073709551616+L=n*2^s) (hL:L=d1*4294967296+d0)
 (h1:q1*Y+R1=U*4294967296+d1) (h0:q0*Y+R=R1*4294967296+d0) (hR:R<Y) :
 (q1*4294967296+q0)*y+R/2^s=n∧R/2^s<y:=by
 have e1:(q1*4294967296+q0)*Y+R=n*2^s:=by
  have e2:(q1*4294967296+q0)*Y=q1*Y*4294967296+q0*Y:=by rw [Nat.add_mul,Nat.mul_assoc,Nat.mul_comm 4294967296 Y,← Nat.mul_assoc]
  rw [← hT,hL,e2];clear hT hL e2 hYs;generalize q1*Y=A at *;generalize q0*Y=C at *;omega
 have hp:0<2^s:=Nat.pow_pos (by decide);rw [← hYs,← Nat.mul_assoc] at e1;have hdv:2^s∣R:=by
  have h3:2^s∣(q1*4294967296+q0)*y*2^s+R:=⟨n,by rw [e1,Nat.mul_comm]⟩;exact (Nat.dvd_add_right (Nat.dvd_mul_left _ _)).1 h3
 obtain ⟨k,hk⟩:=hdv;have hk':R/2^s=k:=by rw [hk];exact Nat.mul_div_cancel_left k hp
 rw [hk',];constructor
 · have:((q1*4294967296+q0)*y+k)*2^s=n*2^s:=by rw [Nat.add_mul,← e1,hk,Nat.mul_comm k]
   exact Nat.eq_of_mul_eq_mul_right hp this
 · rw [hk,← hYs,Nat.mul_comm y] at hR;exact Nat.lt_of_mul_lt_mul_left hR
theorem dshift {hi lo y s:Nat} (hs:s<64) (hl:lo<18446744073709551616) (hh:hi<y) (hy:y*2^s<18446744073709551616) :
 hi*2^s<18446744073709551616∧lo/2^(64-s)<2^s∧hi*2^s+lo/2^(64-s)<y*2^s ∧
 (hi*2^s+lo/2^(64-s))*18446744073709551616+lo*2^s%18446744073709551616=(hi*18446744073709551616+lo)*2^s:=by
 have hp:0<2^s:=Nat.pow_pos (by decide);have hM:(18446744073709551616:Nat)=2^(64-s)*2^s:=by rw [← Nat.pow_add,Nat.sub_add_cancel (by omega)]
 have h2:lo/2^(64-s)<2^s:=by
  rw [Nat.div_lt_iff_lt_mul (Nat.pow_pos (by decide)),Nat.mul_comm,← hM];exact hl
 have h3:hi*2^s+2^s≤y*2^s:=by
  have:=Nat.mul_le_mul_right (2^s) (show hi+1≤y from hh);rwa [Nat.add_mul,Nat.one_mul] at this
 have h4:lo*2^s/18446744073709551616=lo/2^(64-s):=by rw [hM];exact Nat.mul_div_mul_right lo _ hp
 have h5:=Nat.div_add_mod (lo*2^s) 18446744073709551616;rw [h4] at h5;refine ⟨by omega,h2,by omega,?_⟩;rw [Nat.add_mul,Nat.add_mul,Nat.mul_assoc hi 18446744073709551616,Nat.mul_comm 18446744073709551616 (2^s),← Nat.mul_assoc];generalize hi*2^s=A at *;generalize lo*2^s=C at *;generalize lo/2^(64-s)=D at *;omega
theorem LZ_ok {y:Nat} (h0:y≠0) (hy:y<18446744073709551616) (w:World) :
 Ret prog 266 #[.int .u64 (y:Int)] w (fun v w'=>w'=w∧∃ s:Nat,v = .int .i64 (s:Int)∧s<64∧y*2^s<18446744073709551616∧9223372036854775808≤y*2^s) :=
 (Tryz.bits_LeadingZeros64 (y:Int) w (by omega) (by omega)).mono fun e w' ⟨he,hw⟩=>by
  obtain ⟨b1,b2,b3⟩:=Lib.bitLenAux_bounds 64 y hy h0;have b4:Lib.bitLen y≤64:=Lib.bitLen_le y 64 (by decide) hy;change 1≤Lib.bitLen y at b1;change 2^(Lib.bitLen y-1)≤y at b2;change y<2^Lib.bitLen y at b3;rw [Int.toNat_natCast] at he;generalize Lib.bitLen y=L at *;refine ⟨_,he,by rw [hw];exact Ext.refl w,hw,64-L,by congr 1;omega,by omega,?_,?_⟩
  · have:=Nat.mul_lt_mul_of_pos_right b3 (Nat.pow_pos (n:=64-L) (by decide:0<2));rwa [← Nat.pow_add,show L+(64-L)=64 from by omega] at this
  · have:=Nat.mul_le_mul_right (2^(64-L)) b2;rwa [← Nat.pow_add,show L-1+(64-L)=63 from by omega] at this
variable {w1 w2:World}
section laws
variable {K:Value→World→Prop} {d:Option Tmp} {t:TypeId}
theorem zy (c:Nat) (hx:σ x = .int .i64 (a:Int)) (hy:σ y = .int .i64 (b:Int)) (h:a+b=c) (hc:c<9223372036854775808) (hk:K (.int .i64 (c:Int)) w):Runs P r ⟨d,.binOp .add t x y t',ty,pos,af,g⟩ σ w K:=by
 refine zH hx hy rfl ?_;rw [zAG (by omega) (by omega),show ((a:Int)+(b:Int))=(c:Int) from by omega];exact hk
theorem zAS (c:Nat) (hx:σ x = .int .i64 (a:Int)) (hy:σ y = .int .i64 (b:Int)) (h:c+b=a) (hc:a<9223372036854775808) (hk:K (.int .i64 (c:Int)) w):Runs P r ⟨d,.binOp .sub t x y t',ty,pos,af,g⟩ σ w K:=by
 refine zH hx hy rfl ?_;rw [zAG (by omega) (by omega),show ((a:Int)-(b:Int))=(c:Int) from by omega];exact hk
theorem zFI (c:Nat) (hx:σ x = .int .i64 (a:Int)) (hy:σ y = .int .i64 (b:Int)) (h:a*b=c) (hc:c<9223372036854775808) (hk:K (.int .i64 (c:Int)) w):Runs P r ⟨d,.binOp .mul t x y t',ty,pos,af,g⟩ σ w K:=by
 refine zH hx hy rfl ?_;have e:((a:Int)*(b:Int))=((c:Nat):Int):=by rw [← h];exact (Int.natCast_mul a b).symm
 rw [e,zAG (by omega) (by omega)];exact hk
theorem zDr (c:Nat) (hx:σ x = .int .i64 (a:Int)) (hy:σ y = .int .i64 (b:Int)) (hb:b≠0) (h:a/b=c) (hc:c<9223372036854775808) (hk:K (.int .i64 (c:Int)) w):Runs P r ⟨d,.binOp .quo t x y t',ty,pos,af,g⟩ σ w K:=by
 refine zFH hx hy (by omega) ?_;rw [show (a:Int).tdiv (b:Int)=((c:Nat):Int) from by rw [← h];rfl,zAG (by omega) (by omega)];exact hk
theorem zAz (c:Nat) (hx:σ x = .int .i64 (a:Int)) (hy:σ y = .int .i64 (b:Int)) (hb:b≠0) (h:a%b=c) (hk:K (.int .i64 (c:Int)) w):Runs P r ⟨d,.binOp .rem t x y t',ty,pos,af,g⟩ σ w K:=by
 refine zDW hx hy (by omega) ?_;rw [show (a:Int).tmod (b:Int)=((c:Nat):Int) from by rw [← h];rfl];exact hk
end laws
theorem Ext.updS (h:Ext w w1) (hS:ExtS [b] w1 w2) (hb:w.heap.size≤b):Ext w w2 :=
 ⟨hS.os.trans (Below.os h),hS.tape.trans (Below.tape h),hS.output.trans (Below.output h),Nat.le_trans h.size hS.size,fun k hk=>(hS.block k (Nat.lt_of_lt_of_le hk h.size) (by simp;omega)).trans (Below.block h k hk)⟩
end Go.Proofs.YtjiendlfobjanaaGreatDoor
namespace Go.Proofs.YtjiendlfobjanaaGreatDoor
open Go Go.RowKit Go.Proofs Tryz
set_option maxRecDepth 10000
set_option maxHeartbeats 2000000
attribute [local irreducible] Runs WPE CallK Ret
variable {a b n0:Nat}
theorem under3:prog.underlying 3=some (.int .i64):=by kernel_rfl
theorem zMY:prog.underlying 110=some (.int .u64):=by kernel_rfl
theorem dq0 (ha:a<4294967296):a*4294967296<18446744073709551616:=by omega
theorem dq (ha:a<4294967296) (hb:b<4294967296):a*4294967296+b<18446744073709551616:=by omega
theorem dlt {q:Nat} (hq:q<4294967296) (h0:n0<4294967296):q*n0<18446744073709551616:=by
 have:=Nat.mul_le_mul (Nat.le_of_lt_succ hq) (Nat.le_of_lt_succ h0);omega
theorem t_le (h:decide (((a:Nat):Int)≥((b:Nat):Int))=true):b≤a:=by rw [decide_eq_true_eq] at h;omega
theorem f_le (h:decide (((a:Nat):Int)≥((b:Nat):Int))=false):a<b:=by rw [decide_eq_false_iff_not] at h;omega
theorem zLN {hi lo y:Nat} (hh:hi<y) (hl:lo<18446744073709551616) (hy:y<18446744073709551616) (w:World):Ret prog 268 #[.int .u64 (hi:Int),.int .u64 (lo:Int),.int .u64 (y:Int)] w (fun v _=>∃ q r:Nat,v = .tuple #[.int .u64 (q:Int),.int .u64 (r:Int)]∧q*y+r=hi*18446744073709551616+lo∧r<y∧q<18446744073709551616):=by
 refine J0 135 func268 rfl (rj fun K=>ag (ag (rm [0,1,2] K ?_)));refine zA (rJ fun K=>K8 rfl (rm [0,1,2,20] K ?_));refine wcf (congrArg Value.bool (beq_eq_false_iff_ne.2 (by omega))) (sk (zA (rJ fun K=>mv (K8 rfl (rm [0,1,2,24] K ?_)))));refine wcf (congrArg Value.bool (decide_eq_false (by omega))) (sk (zA (rJ fun K=>K8 rfl (rm [0,1,2,27] K ?_))));refine K0 rfl ?_ ?_<;>intro hc
 · obtain rfl:hi=0:=t_beq (b:=0) hc;clear hc;refine zA (zEw mixed rfl rfl fun K hK=>qr rfl (fun wx hE=>zF ⟨rfl,Ext.refl _⟩) (qr rfl (fun wx hE=>zF ⟨rfl,Ext.refl _⟩) (qr rfl (fun wx hE=>zIN (lo/y) rfl rfl (by omega) rfl (Nat.lt_of_le_of_lt (Nat.div_le_self _ _) hl) ⟨rfl,Ext.refl _⟩) (qr rfl (fun wx hE=>zF ⟨rfl,Ext.refl _⟩) (qr rfl (fun wx hE=>zF ⟨rfl,Ext.refl _⟩) (qr rfl (fun wx hE=>zKp (lo%y) rfl rfl (by omega) rfl ⟨rfl,Ext.refl _⟩) (qr rfl (fun wx hE=>zp ⟨rfl,Ext.refl _⟩) (qr rfl (fun wx hE=>zp ⟨rfl,Ext.refl _⟩) (hK _ fun wq hE => ?_)))))))));replace E0:=E0.trans hE;clear hE;refine zN (K5 [2,6,7] ?_);refine zE (zY (zQ ?_));exact ⟨rfl,_,zn rfl rfl rfl,E0,_,_,rfl,by rw [Nat.zero_mul,Nat.zero_add,Nat.mul_comm];exact Nat.div_add_mod lo y,Nat.mod_lt _ (by omega),Nat.lt_of_le_of_lt (Nat.div_le_self _ _) hl⟩
 · clear hc;refine sk (rJ fun K=>K1 (j0 E0 hb266 (LZ_ok (by omega) hy _) fun v7_1 w1 E0 hr => ?_));obtain ⟨hw,s,rfl,hs,hY1,hY2⟩:=hr;subst w1;obtain ⟨Y,hY⟩:∃ Y,Y=y*2^s:=⟨_,rfl⟩;obtain ⟨k1,k2,k3,k4⟩:=dshift hs hl hh hY1;rw [← hY] at hY1 hY2 k3;obtain ⟨U,hUe⟩:∃ U,U=hi*2^s+lo/2^(64-s):=⟨_,rfl⟩;obtain ⟨L,hLe⟩:∃ L,L=lo*2^s%18446744073709551616:=⟨_,rfl⟩;rw [← hUe] at k3;rw [← hUe,← hLe] at k4;have hLM:L<18446744073709551616:=by rw [hLe];exact Nat.mod_lt _ (by decide)
   obtain ⟨n1,hn1⟩:∃ n1,n1=Y/2^32:=⟨_,rfl⟩;obtain ⟨n0,hn0⟩:∃ n0,n0=Y%4294967296:=⟨_,rfl⟩;obtain ⟨d1,hd1⟩:∃ d1,d1=L/2^32:=⟨_,rfl⟩;obtain ⟨d0,hd0⟩:∃ d0,d0=L%4294967296:=⟨_,rfl⟩;have hYn:Y=n1*4294967296+n0:=by omega
   have hLn:L=d1*4294967296+d0:=by omega
   have h0:n0<4294967296:=by omega
   have hd:d1<4294967296:=by omega
   have hd':d0<4294967296:=by omega
   have h1:2147483648≤n1:=by omega
   have h1':n1<4294967296:=by omega
   refine K1 (zGl s under3 zMY rfl (by omega) (ag (rm [0,1,2,8] K ?_)));refine rJ fun K=>mv ?_;refine K1 (zEq (Y) rfl rfl (by omega) (by rw [← hY];exact Nat.mod_eq_of_lt hY1) ?_);refine ag (rm [0,1,2,8] K ?_);refine rJ fun K=>K1 (zDs (s:=32) (n1) rfl rfl (by decide) hn1.symm (ag (rm [0,1,2,8,9] K ?_)));refine rj fun K=>mv ?_;refine K1 (zKo (b:=4294967295) (n0) rfl rfl hY1 (by decide) (by rw [zLT];exact hn0.symm) ?_);refine ag (rm [0,1,2,8,9,10] K ?_);refine rJ fun K=>mv (K1 (zEq (hi*2^s) rfl rfl (by omega) (Nat.mod_eq_of_lt k1) (mv (mv (K1 (zCk (a:=64) (64-s) rfl rfl (by omega) (by decide) (K1 (zDs (s:=64-s) (lo/2^(64-s)) rfl rfl (by omega) rfl (K1 (zJo (U) rfl rfl k1 (by omega) (by rw [zNG k2,hUe]) (ag (rm [1,2,8,9,10,11] K ?_))))))))))));refine rJ fun K=>mv (K1 (zEq (L) rfl rfl (by omega) hLe.symm (ag (rm [2,8,9,10,11,12] K ?_))));refine rJ fun K=>K1 (zDs (s:=32) (d1) rfl rfl (by decide) hd1.symm (ag (rm [2,8,9,10,11,12,13] K ?_)));refine rj fun K=>mv ?_;refine K1 (zKo (b:=4294967295) (d0) rfl rfl hLM (by decide) (by rw [zLT];exact hd0.symm) ?_);refine ag (rm [2,8,9,10,11,13,14] K ?_);refine zA ?_;have hU:=k3;have hinit:=dinit hYn h0 h1 h1' hU hd;refine rI fun K=>mv ?_;refine K1 (zIN (U/n1) rfl rfl (by omega) rfl (by have:=Nat.div_le_self U n1;omega) ?_)
   refine ag (rs [2,8,9,10,11,13,14,15] K ?_);refine rJ fun K=>mv (mv ?_);refine K1 (zCT (U/n1*n1) rfl rfl rfl (by have:=hinit.1;omega) ?_);refine K1 (zCk (U%n1) rfl rfl (by have:=hinit.1;omega) (by omega) ?_);refine ag (rm [2,8,9,10,11,13,14,15,16] K ?_);refine zCJ (fun ρ w'=>∃ q:Nat,Keep ρ [(2,.int .u64 (Y:Nat)),(8,.int .u64 (s:Nat)),(9,.int .u64 (n1:Nat)),(10,.int .u64 (n0:Nat)),(14,.int .u64 (d0:Nat)),(11,.int .u64 (U:Nat)),(13,.int .u64 (d1:Nat)),(15,.int .u64 (q:Nat))]∧w'=w∧q*Y≤U*4294967296+d1∧U*4294967296+d1<(q+1)*Y) ?_ ?_
   · refine zG (zo (X:=Nat×Nat) (fun p ρ w'=>Keep ρ [(2,.int .u64 (Y:Nat)),(8,.int .u64 (s:Nat)),(9,.int .u64 (n1:Nat)),(10,.int .u64 (n0:Nat)),(14,.int .u64 (d0:Nat)),(11,.int .u64 (U:Nat)),(13,.int .u64 (d1:Nat)),(15,.int .u64 (p.1:Nat)),(16,.int .u64 (p.2:Nat))]∧w'=w∧p.1*n1+p.2=U∧p.2<4294967296∧U*4294967296+d1<(p.1+1)*Y∧p.1≤4294967297) (fun p=>p.1) (U/n1,U%n1) ⟨(kp rfl),rfl,hinit⟩ ?_);clear hinit;rintro ⟨q,rh⟩ ρ1 w2 ⟨hk,hw,hi,hi2,hi3,hi4⟩;subst w2;simp only at hk hi hi2 hi3 hi4;refine wpe_k _ hk ?_;clear hk ρ1;refine zA (zA ?_);rcases Nat.lt_or_ge q 4294967296 with hq | hq
     · skip
       refine rI fun K=>K1 (zH (v := .bool false) rfl rfl (congrArg (fun b=>some (Value.bool b)) (decide_eq_false (by omega))) (mv (K7 (K7 (K2 (zCT (q*n0) rfl rfl rfl (dlt hq h0) (K7 (K2 (zCT (a:=4294967296) (4294967296*rh) rfl rfl rfl (by omega) (K7 (K2 (zCD (4294967296*rh+d1) rfl rfl rfl (by omega) (K2 (zH rfl rfl rfl (pc0 rfl (rl K (zN ?_)))))))))))))))));refine K5 [2,8,9,10,11,13,14,15,16,70,71,72,73,74,75,76,77,78] ?_;refine K0 rfl ?_ ?_<;>intro hc
       · obtain ⟨g1,g2⟩:=dstep hYn hU hd hi (Or.inr (t_lt hc));clear hc;refine sk (zG (rJ fun K=>K1 (zCk (b:=1) (q-1) rfl rfl (by omega) (by omega) (ag (rm [2,8,9,10,11,13,14,15,16,70,71,72,73,74,75,76,77] K ?_)))));refine rJ fun K=>mv (K1 (zCD (rh+n1) rfl rfl rfl (by omega) (ag (rm [2,8,9,10,11,13,14,15,16,70,71,72,73,74,75,76,77] K ?_))));refine rJ fun K=>K8 rfl (rm [2,8,9,10,11,13,14,15,16,70,71,72,73,74,75,76,77,85] K ?_);refine K0 rfl ?_ ?_<;>intro hc
         · refine zi (zCY (by decide) (zv (zP (zV ?_))));exact ⟨rfl,q-1,(kp rfl),rfl,zIl hYn (ddown g2 hi) (zLb h0 (by omega) (by have:=t_le hc;omega)),by rw [Nat.sub_add_cancel g2];exact g1⟩
         · refine zz (zT (zV ?_));have hlt:=f_le hc;exact ⟨rfl,(q-1,rh+n1),⟨(kp rfl),rfl,ddown g2 hi,hlt,by simp only;rw [Nat.sub_add_cancel g2];exact g1,by simp only;omega⟩,by simp only;omega⟩
       · have hle:=f_lt hc;clear hc;have hp:=zIl hYn hi hle;exact zi (zAE (zv (zP (zV ⟨rfl,q,(kp rfl),rfl,hp,hi3⟩))))
     · skip
       refine rI fun K=>K1 (zH (v := .bool true) rfl rfl (congrArg (fun b=>some (Value.bool b)) (decide_eq_true (by omega))) (mv (K3 (K3 (K3 (K3 (K3 (K3 (K3 (K3 (pc0 rfl (rl K (zN ?_)))))))))))));refine K5 [2,8,9,10,11,13,14,15,16,70,71,72,73,74,75,76,77,78] ?_;obtain ⟨g1,g2⟩:=dstep hYn hU hd hi (Or.inl hq);refine wct rfl (sk (zG (rJ fun K=>K1 (zCk (b:=1) (q-1) rfl rfl (by omega) (by omega) (ag (rm [2,8,9,10,11,13,14,15,16,70,71,72,73,74,75,76,77] K ?_))))));refine rJ fun K=>mv (K1 (zCD (rh+n1) rfl rfl rfl (by omega) (ag (rm [2,8,9,10,11,13,14,15,16,70,71,72,73,74,75,76,77] K ?_))));refine rJ fun K=>K8 rfl (rm [2,8,9,10,11,13,14,15,16,70,71,72,73,74,75,76,77,85] K ?_);refine K0 rfl ?_ ?_<;>intro hc
       · refine zi (zCY (by decide) (zv (zP (zV ?_))));exact ⟨rfl,q-1,(kp rfl),rfl,zIl hYn (ddown g2 hi) (zLb h0 (by omega) (by have:=t_le hc;omega)),by rw [Nat.sub_add_cancel g2];exact g1⟩
       · refine zz (zT (zV ?_));have hlt:=f_le hc;exact ⟨rfl,(q-1,rh+n1),⟨(kp rfl),rfl,ddown g2 hi,hlt,by simp only;rw [Nat.sub_add_cancel g2];exact g1,by simp only;omega⟩,by simp only;omega⟩
   · rintro ρ1 w2 ⟨q1,hk,hw,p1,p2⟩;subst w2;refine wpe_k _ hk ?_;clear hk ρ1;have hq1:q1<4294967296:=zNj hU hd p1;obtain ⟨R1,hR1⟩:∃ R1,R1=U*4294967296+d1-q1*Y:=⟨_,rfl⟩;have hR1Y:R1<Y:=by rw [Nat.add_mul] at p2;omega
     refine rJ fun K=>K1 (zFJ (b:=4294967296) (U*4294967296%18446744073709551616) rfl rfl rfl (mv ?_));refine K1 (zH (v := .int .u64 (((U*4294967296%18446744073709551616+d1)%18446744073709551616:Nat):Int)) rfl rfl (by rw [ibin,zBv];rfl) ?_);refine mv (mv (K1 (zFJ (q1*Y%18446744073709551616) rfl rfl rfl (K1 (zJE (R1) rfl rfl (by rw [drest hY1 p1 p2 rfl rfl rfl,hR1]) (ag (rm [2,8,9,10,11,13,14,15,17] K ?_)))))));refine zA ?_;clear hd hU;have hd:=hd';have hU:=hR1Y;have hinit:=dinit hYn h0 h1 h1' hU hd;refine rI fun K=>mv ?_;refine K1 (zIN (R1/n1) rfl rfl (by omega) rfl (by have:=Nat.div_le_self R1 n1;omega) ?_);refine ag (rs [2,8,9,10,11,13,14,15,17,18] K ?_);refine rJ fun K=>mv (mv ?_);refine K1 (zCT (R1/n1*n1) rfl rfl rfl (by have:=hinit.1;omega) ?_);refine K1 (zCk (R1%n1) rfl rfl (by have:=hinit.1;omega) (by omega) ?_);refine ag (rm [2,8,9,10,11,13,14,15,16,17,18] K ?_);refine zCJ (fun ρ w'=>∃ q:Nat,Keep ρ [(2,.int .u64 (Y:Nat)),(8,.int .u64 (s:Nat)),(9,.int .u64 (n1:Nat)),(10,.int .u64 (n0:Nat)),(14,.int .u64 (d0:Nat)),(17,.int .u64 (R1:Nat)),(15,.int .u64 (q1:Nat)),(18,.int .u64 (q:Nat))]∧w'=w∧q*Y≤R1*4294967296+d0∧R1*4294967296+d0<(q+1)*Y) ?_ ?_
     · refine zG (zo (X:=Nat×Nat) (fun p ρ w'=>Keep ρ [(2,.int .u64 (Y:Nat)),(8,.int .u64 (s:Nat)),(9,.int .u64 (n1:Nat)),(10,.int .u64 (n0:Nat)),(14,.int .u64 (d0:Nat)),(17,.int .u64 (R1:Nat)),(15,.int .u64 (q1:Nat)),(18,.int .u64 (p.1:Nat)),(16,.int .u64 (p.2:Nat))]∧w'=w∧p.1*n1+p.2=R1∧p.2<4294967296∧R1*4294967296+d0<(p.1+1)*Y∧p.1≤4294967297) (fun p=>p.1) (R1/n1,R1%n1) ⟨(kp rfl),rfl,hinit⟩ ?_);clear hinit;rintro ⟨q,rh⟩ ρ1 w2 ⟨hk,hw,hi,hi2,hi3,hi4⟩;subst w2;simp only at hk hi hi2 hi3 hi4;refine wpe_k _ hk ?_;clear hk ρ1;refine zA (zA ?_);rcases Nat.lt_or_ge q 4294967296 with hq | hq
       · skip
         refine rI fun K=>K1 (zH (v := .bool false) rfl rfl (congrArg (fun b=>some (Value.bool b)) (decide_eq_false (by omega))) (mv (K7 (K7 (K2 (zCT (q*n0) rfl rfl rfl (dlt hq h0) (K7 (K2 (zCT (a:=4294967296) (4294967296*rh) rfl rfl rfl (by omega) (K7 (K2 (zCD (4294967296*rh+d0) rfl rfl rfl (by omega) (K2 (zH rfl rfl rfl (pc0 rfl (rl K (zN ?_)))))))))))))))));refine K5 [2,8,9,10,14,15,16,17,18,105,106,107,108,109,110,111,112,113] ?_;refine K0 rfl ?_ ?_<;>intro hc
         · obtain ⟨g1,g2⟩:=dstep hYn hU hd hi (Or.inr (t_lt hc));clear hc;refine sk (zG (rJ fun K=>K1 (zCk (b:=1) (q-1) rfl rfl (by omega) (by omega) (ag (rm [2,8,9,10,14,15,16,17,18,105,106,107,108,109,110,111,112] K ?_)))));refine rJ fun K=>mv (K1 (zCD (rh+n1) rfl rfl rfl (by omega) (ag (rm [2,8,9,10,14,15,16,17,18,105,106,107,108,109,110,111,112] K ?_))));refine rJ fun K=>K8 rfl (rm [2,8,9,10,14,15,16,17,18,105,106,107,108,109,110,111,112,120] K ?_);refine K0 rfl ?_ ?_<;>intro hc
           · refine zi (zCY (by decide) (zv (zP (zV ?_))));exact ⟨rfl,q-1,(kp rfl),rfl,zIl hYn (ddown g2 hi) (zLb h0 (by omega) (by have:=t_le hc;omega)),by rw [Nat.sub_add_cancel g2];exact g1⟩
           · refine zz (zT (zV ?_));have hlt:=f_le hc;exact ⟨rfl,(q-1,rh+n1),⟨(kp rfl),rfl,ddown g2 hi,hlt,by simp only;rw [Nat.sub_add_cancel g2];exact g1,by simp only;omega⟩,by simp only;omega⟩
         · have hle:=f_lt hc;clear hc;have hp:=zIl hYn hi hle;exact zi (zAE (zv (zP (zV ⟨rfl,q,(kp rfl),rfl,hp,hi3⟩))))
       · skip
         refine rI fun K=>K1 (zH (v := .bool true) rfl rfl (congrArg (fun b=>some (Value.bool b)) (decide_eq_true (by omega))) (mv (K3 (K3 (K3 (K3 (K3 (K3 (K3 (K3 (pc0 rfl (rl K (zN ?_)))))))))))));refine K5 [2,8,9,10,14,15,16,17,18,105,106,107,108,109,110,111,112,113] ?_;obtain ⟨g1,g2⟩:=dstep hYn hU hd hi (Or.inl hq);refine wct rfl (sk (zG (rJ fun K=>K1 (zCk (b:=1) (q-1) rfl rfl (by omega) (by omega) (ag (rm [2,8,9,10,14,15,16,17,18,105,106,107,108,109,110,111,112] K ?_))))));refine rJ fun K=>mv (K1 (zCD (rh+n1) rfl rfl rfl (by omega) (ag (rm [2,8,9,10,14,15,16,17,18,105,106,107,108,109,110,111,112] K ?_))));refine rJ fun K=>K8 rfl (rm [2,8,9,10,14,15,16,17,18,105,106,107,108,109,110,111,112,120] K ?_);refine K0 rfl ?_ ?_<;>intro hc
         · refine zi (zCY (by decide) (zv (zP (zV ?_))));exact ⟨rfl,q-1,(kp rfl),rfl,zIl hYn (ddown g2 hi) (zLb h0 (by omega) (by have:=t_le hc;omega)),by rw [Nat.sub_add_cancel g2];exact g1⟩
         · refine zz (zT (zV ?_));have hlt:=f_le hc;exact ⟨rfl,(q-1,rh+n1),⟨(kp rfl),rfl,ddown g2 hi,hlt,by simp only;rw [Nat.sub_add_cancel g2];exact g1,by simp only;omega⟩,by simp only;omega⟩
     · rintro ρ1 w2 ⟨q0,hk,hw,p3,p4⟩;subst w2;refine wpe_k _ hk ?_;clear hk ρ1;have hq0:q0<4294967296:=zNj hU hd p3;obtain ⟨R,hR⟩:∃ R,R=R1*4294967296+d0-q0*Y:=⟨_,rfl⟩;have hRY:R<Y:=by rw [Nat.add_mul] at p4;omega
       refine rJ fun K=>K1 (zCT (b:=4294967296) (q1*4294967296) rfl rfl rfl (dq0 hq1) (mv (K1 (zCD (q1*4294967296+q0) rfl rfl rfl (dq hq1 hq0) (mv (K1 (zFJ (b:=4294967296) (R1*4294967296%18446744073709551616) rfl rfl rfl (mv ?_))))))));refine K1 (zH (v := .int .u64 (((R1*4294967296%18446744073709551616+d0)%18446744073709551616:Nat):Int)) rfl rfl (by rw [ibin,zBv];rfl) ?_);refine mv (mv (K1 (zFJ (q0*Y%18446744073709551616) rfl rfl rfl (K1 (zJE (R) rfl rfl (by rw [drest hY1 p3 p4 rfl rfl rfl,hR]) (mv (K1 (zDs (s:=s) (R/2^s) rfl rfl (by omega) rfl (ag (ag (rm [2,6,7,8,9,10,14,15,17,18] K ?_)))))))))));refine zE (zQ ?_);obtain ⟨f1,f2⟩:=dfinal (q1:=q1) (q0:=q0) (R1:=R1) (R:=R) (Nat.zero_lt_of_lt hh) hY.symm k4 hLn (by rw [hR1];exact Nat.add_sub_of_le p1) (by rw [hR];exact Nat.add_sub_of_le p3) hRY;exact ⟨rfl,_,zn rfl rfl rfl,E0,_,_,rfl,f1,f2,dq hq1 hq0⟩
variable {O xs:List Nat} {d k n:Nat} {w:World}
theorem zHm (h:k<O.length):nat64 ((O.set k d).drop k)=d+18446744073709551616*nat64 (O.drop (k+1)):=by
 rw [zFG (by simpa using h)];congr 1
 · simp [h]
 · rw [List.drop_set_of_lt (by omega)]
theorem by1_step {rest q r:Nat} (hk:k<xs.length) (hO:k<O.length) (hi:nat64 (O.drop (k+1))*b+rest=nat64 (xs.drop (k+1))) (hs:q*b+r=rest*18446744073709551616+xs.getD k 0) :
 nat64 ((O.set k q).drop k)*b+r=nat64 (xs.drop k):=by
 rw [zHm hO,zFG hk,← hi,Nat.add_mul,Nat.mul_assoc];generalize nat64 (O.drop (k+1))*b=A at *;generalize q*b=C at *;omega
theorem divmod_of {q r:Nat} (h:q*b+r=n) (hr:r<b):n/b=q∧n%b=r:=by
 subst h;constructor
 · rw [Nat.mul_comm,Nat.mul_add_div (by omega),Nat.div_eq_of_lt hr,Nat.add_zero]
 · rw [Nat.mul_comm,Nat.mul_add_mod,Nat.mod_eq_of_lt hr]
theorem zLY {x:Value} {m:Nat} (hxw:IsW w x m) (hm:Fit m) (hb0:0<b) (hb:b<18446744073709551616):Ret prog 239 #[x,.int .u64 (b:Int)] w (fun v w'=>∃ q,v = .tuple #[q,.int .u64 ((m%b:Nat):Int)]∧IsW w' q (m/b)):=by
 obtain ⟨pa,xs,ca,rfl,hca,ha,hx,hxv⟩:=hxw;subst hxv;have hlx:=hx.fit hm;have E0:Ext w w:=Ext.refl w;refine J0 35 func239 rfl (rj fun K=>ag (ag (rm [0,1] K ?_)));refine rJ fun K=>K1 (zJ zX rfl ?_);refine K1 (zAg zDM zFX rfl rfl rfl (by omega) (by omega) (by omega) fun ob w1 hb1 hE hB hs => ?_);have hgb:w.heap.size≤ob:=by rw [hb1];exact E0.size
 have hna:=ha.ne (Nat.le_of_eq hb1.symm);replace E0:=E0.trans hE;replace ha:=ha.ext hE;clear hE hs hb1;rw [show ((xs.length:Nat):Int).toNat=xs.length from by omega,show (Value.int IntKind.u64 0).cells.toList=[Value.int IntKind.u64 0] from rfl,zCL] at hB;refine ag (rm [0,1,6] K ?_);refine rj fun K=>ag (rm [0,1,6,7] K ?_);refine zA (rJ fun K=>K1 (zJ zX rfl (K1 (zH (v := .int .i64 (((xs.length:Nat):Int)-1)) rfl rfl (congrArg (fun z=>some (Value.int .i64 z)) (zAG (by omega) (by omega))) (ag (rm [0,1,6,7,8] K ?_))))));refine zG (zo (X:=Nat×Nat) (fun p ρ w'=>Keep ρ [(0,.slice pa xs.length ca),(1,.int .u64 (b:Nat)),(6,.slice (some ⟨ob,0,none⟩) xs.length xs.length),(7,.int .u64 (p.2:Nat)),(8,.int .i64 (((p.1:Nat):Int)-1))]∧p.1≤xs.length∧p.2<b∧Ext w w'∧Rd w' pa xs∧∃ O,O.length=xs.length∧Dig O∧nat64 (O.drop p.1)*b+p.2=nat64 (xs.drop p.1)∧Blk w' ob 164 (dv O)) (fun p=>p.1) (xs.length,0) ⟨(kp rfl),Nat.le_refl _,by omega,E0,ha,List.replicate xs.length 0,by simp,zDg _,by simp [nat64],hB⟩ ?_);clear E0 ha hB;rintro ⟨k,rest⟩ ρ1 w1 ⟨hk,hkl,hrb,E0,ha,O,hO,hOd,hOn,hB⟩;simp only at hk hkl hrb hOn;refine wpe_k _ hk ?_;clear hk ρ1;refine zA (zA ?_);rcases k with _ | k
 · skip
   refine rI fun K=>K8 rfl (rs [0,1,6,7,8,16] K ?_);refine wcf (congrArg Value.bool (decide_eq_false (by omega))) (zi (zAE (zv (zP (zN (rJ fun K=>K1 (j2 E0 ha.ext hB.ext hb194 (zEC hO (Nat.le_refl _) (Rd.of_blk hB) hOd (by omega)) fun v7_1 w1 E0 ha hB hr => ?_)))))));rw [List.drop_zero,List.drop_zero] at hOn;refine mv (ag (ag (rm [0,1,4,5,6,7,8] K ?_)));refine zE (zQ ?_);obtain ⟨d1,d2⟩:=divmod_of hOn hrb;exact ⟨rfl,_,zn rfl rfl rfl,E0,v7_1,by rw [d2];rfl,by rw [d1];exact hr⟩
 · obtain ⟨b2,o2,cs2,hpa,hB2,hv2⟩:=ha k (by omega);have hw1:((k+1:Nat):Int)-1=(k:Int):=by omega
   have hw2:IntKind.i64.wrap (((k+1:Nat):Int)-1-1)=(k:Int)-1:=by rw [zAG (by omega) (by omega)];omega
   refine rI fun K=>K8 rfl (rs [0,1,6,7,8,16] K ?_);refine wct (congrArg Value.bool (decide_eq_true (by omega))) (sk (zA (zG (rI fun K=>mv (mv (mv (mv (K1 (zO (ix:=k) (b:=b2) (o:=o2) zX (congrArg (fun p=>Value.slice p xs.length ca) hpa) (congrArg (Value.int .i64) hw1) (by omega) (by omega) (K1 (zD zAT rfl hB2 (by simpa using hv2) (mv (K1 (j2 E0 ha.ext hB.ext hb268 (zLN hrb (hx.1.getD k) hb _) fun v6_8 w1 E0 ha hB hr => ?_))))))))))))));obtain ⟨q,r,rfl,hqr,hrl,hql⟩:=hr;refine mv (xt rfl (xt rfl (K1 (zO (ix:=k) (b:=ob) (o:=0) zX rfl (congrArg (Value.int .i64) hw1) (by omega) (by omega) ?_))));refine K1 (zZ zCU rfl hB rfl (by rw [zAl];omega) (by decide) rfl fun w3 hU hN => ?_);refine ag (rl K (zT (zN (K5 [0,1,6,7,8] ?_))));refine rI fun K=>K8 rfl (ag (rl K (zV ?_)));exact ⟨rfl,(k,r),⟨⟨rfl,rfl,rfl,rfl,rfl,rfl,rfl,rfl,rfl,congrArg (Value.int .i64) hw2,trivial⟩,by simp only;omega,hrl,E0.upd hU hgb,ha.upd' hU hna,_,by simp [hO],hOd.set _ hql,by1_step (by omega) (by omega) hOn hqr,zBh hN (by omega)⟩,by simp only;omega⟩
variable {P:Program} {U:List Nat} {V b1 c1 carry cu j l1 o t:Nat} {af:Array Edge} {f:FuncId} {g:Option (Nat×Bool)} {pos:String} {pv:Option Addr} {r:Option Nat} {ty:TypeId} {v:Value} {vs:Array Value} {σ:Operand→Value}
theorem zCw {K:Value→World→Prop} {d:Option Tmp} {args:Array Operand} {ts:Array TypeId} (hf:(callFunc f vs).run P w = .ok (.value v) w) (ha:args.toList.map σ=vs.toList) (hσ:σ (.func f) = .func (.func f) #[] #[]) (hk:K v w) :
 Runs P r ⟨d,.call { callee := .value (.func f),args:=args,argTypes:=ts },ty,pos,af,g⟩ σ w K :=
 zGi (by rw [ha,Array.toArray_toList];exact hf) hσ hk
theorem zKB (x y:Nat) (hx:x<18446744073709551616) (hy:y<18446744073709551616) :
 ∃ s k:Nat,(∀ w,(callFunc 193 #[.int .u64 (x:Int),.int .u64 (y:Int),.int .u64 0]).run prog w = .ok (.value (.tuple #[.int .u64 (s:Int),.int .u64 (k:Int)])) w)∧s+18446744073709551616*k=x+y+0∧s<18446744073709551616∧k≤1 :=
 zFi x y 0 hx hy (by decide)
def seg (U:List Nat) (o:Nat):Nat→Nat
 | 0=>0
 | n+1=>seg U o n+18446744073709551616^n*U.getD (o+n) 0
theorem zKq {U V:List Nat} {o:Nat}:∀ {n:Nat},(∀ k,o≤k→k<o+n→U.getD k 0=V.getD k 0)→seg U o n=seg V o n
 | 0,_=>rfl
 | n+1,h=>by rw [seg,seg,zKq (n:=n) fun k h1 h2=>h k h1 (by omega),h (o+n) (by omega) (by omega)]
theorem zEH (h:k<U.length):(U.set k d).getD k 0=d:=by simp [h]
theorem getD_set_ne (h:k≠j):(U.set k d).getD j 0=U.getD j 0:=by
 simp [List.getElem?_set_ne h]
theorem zJp (h:o+n<U.length):seg (U.set (o+n) d) o (n+1)=seg U o n+18446744073709551616^n*d:=by
 rw [seg,zEH h,zKq (n:=n) (V:=U) fun k h1 h2=>getD_set_ne (by omega)]
theorem zJF {U:List Nat} (h:Dig U) (o:Nat):∀ n,seg U o n<18446744073709551616^n
 | 0=>by simp [seg]
 | n+1=>by
  have h1:=zJF h o n;have h2:=h.getD (o+n);rw [seg,Nat.pow_succ];have h3:=Nat.mul_le_mul_left (18446744073709551616^n) (Nat.le_of_lt_succ (show U.getD (o+n) 0<18446744073709551615+1 from h2));generalize 18446744073709551616^n*U.getD (o+n) 0=A at *;generalize 18446744073709551616^n=B at *;omega
theorem zMR {x hi lo:Nat} (hx:x<18446744073709551616) (ht:t<18446744073709551616) (hc:carry<18446744073709551616)
 (e1:lo+18446744073709551616*hi=x*t) (e2:l1+18446744073709551616*c1=lo+carry+0):hi+c1<18446744073709551616:=by
 have hxy:x*t≤18446744073709551615*18446744073709551615:=Nat.mul_le_mul (by omega) (by omega);generalize x*t=p at *;omega
theorem take_step {B S T x borrow hi lo u1 u:Nat} (h:S+t*V=T+B*(carry+borrow))
 (e1:lo+18446744073709551616*hi=x*t) (e2:l1+18446744073709551616*c1=lo+carry+0) (e3:u1+(l1+borrow)=u+18446744073709551616*b1) :
 S+B*u1+t*(V+B*x)=T+B*u+B*18446744073709551616*(hi+c1+b1):=by
 have k:u1+x*t+(carry+borrow)=u+18446744073709551616*(hi+c1+b1):=by
  generalize x*t=p at *;omega
 have k2:B*(u1+x*t+(carry+borrow))=B*(u+18446744073709551616*(hi+c1+b1)):=by rw [k]
 rw [Nat.mul_add t,← Nat.mul_assoc t,Nat.mul_comm t B,Nat.mul_assoc B t,Nat.mul_comm t x,Nat.mul_assoc B 18446744073709551616];simp only [Nat.mul_add] at k2 h ⊢;omega
theorem take_last {B S T borrow u1 u:Nat} (h:S+V=T+B*(carry+borrow)) (e3:u1+(carry+borrow)=u+18446744073709551616*b1) :
 S+B*u1+V=T+B*u+B*18446744073709551616*b1:=by
 have k2:B*(u1+(carry+borrow))=B*(u+18446744073709551616*b1):=by rw [e3]
 rw [Nat.mul_assoc];simp only [Nat.mul_add] at k2 h ⊢;omega
theorem give_step {B S T x more hi lo u1 u:Nat} (h:S+B*(carry+more)=T+t*V)
 (e1:lo+18446744073709551616*hi=x*t) (e2:l1+18446744073709551616*c1=lo+carry+0) (e3:u1+18446744073709551616*b1=u+l1+more) :
 S+B*u1+B*18446744073709551616*(hi+c1+b1)=T+B*u+t*(V+B*x):=by
 have k:u1+18446744073709551616*(hi+c1+b1)=u+x*t+(carry+more):=by
  generalize x*t=p at *;omega
 have k2:B*(u1+18446744073709551616*(hi+c1+b1))=B*(u+x*t+(carry+more)):=by rw [k]
 rw [Nat.mul_add t,← Nat.mul_assoc t,Nat.mul_comm t B,Nat.mul_assoc B t,Nat.mul_comm t x,Nat.mul_assoc B 18446744073709551616];simp only [Nat.mul_add] at k2 h ⊢;omega
theorem give_last {B S T more u1 u:Nat} (h:S+B*(carry+more)=T+V) (e3:u1+18446744073709551616*b1=u+carry+more) :
 S+B*u1+B*18446744073709551616*b1=T+B*u+V:=by
 have k2:B*(u1+18446744073709551616*b1)=B*(u+carry+more):=by rw [e3]
 rw [Nat.mul_assoc];simp only [Nat.mul_add] at k2 h ⊢;omega
theorem take_ok {lu cv:Nat} {vs:List Nat} (hU:Blk w b 164 (dv U)) (hUd:Dig U) (hV:Rd w pv vs) (hVd:Dig vs) (hn:∀ a,pv=some a→0<vs.length→a.block≠b) (ht:t<18446744073709551616) (hlu:vs.length<lu) (ho:o+lu≤U.length) (hbig:lu<4611686018427387904):CallK prog 269 #[.slice (some ⟨b,o,none⟩) lu cu,.slice pv vs.length cv,.int .u64 (t:Int)] w (fun v w'=>∃ U' c,v = .bool (((c:Nat):Int) != 0)∧c≤1∧Upd b w w'∧Blk w' b 164 (dv U')∧U'.length=U.length∧Dig U'∧(∀ k,k<o∨o+vs.length<k→U'.getD k 0=U.getD k 0)∧seg U' o (vs.length+1)+t*nat64 vs=seg U o (vs.length+1)+18446744073709551616^(vs.length+1)*c):=by
 refine zBj 67 func269 rfl rfl (Nat.le_of_ble_eq_true rfl) (rj fun K=>ag (rm [0,1,2] K ?_));refine rj fun K=>ag (ag (rm [0,1,2,7,8] K ?_));refine zA (rJ fun K=>K1 (zJ zX rfl (mv (rm [0,1,2,7,8,14,15,16] K ?_))));refine zG (zo (X:=Nat×Nat×Nat) (fun p ρ w'=>Keep ρ [(0,.slice (some ⟨b,o,none⟩) lu cu),(1,.slice pv vs.length cv),(2,.int .u64 (t:Nat)),(7,.int .u64 (p.2.1:Nat)),(8,.int .u64 (p.2.2:Nat)),(14,.slice pv vs.length cv),(15,.int .i64 (vs.length:Nat)),(16,.int .i64 (p.1:Nat))]∧p.1≤vs.length∧p.2.1<18446744073709551616∧p.2.2≤1∧Upd b w w'∧∃ A,A.length=U.length∧Dig A∧(∀ k,k<o∨o+p.1≤k→A.getD k 0=U.getD k 0)∧seg A o p.1+t*nat64 (vs.take p.1)=seg U o p.1+18446744073709551616^p.1*(p.2.1+p.2.2)∧Blk w' b 164 (dv A)) (fun p=>vs.length-p.1) (0,0,0) ⟨(kp rfl),Nat.zero_le _,by decide,by decide,Upd.refl b w,U,rfl,hUd,fun _ _=>rfl,by simp [seg,nat64],hU⟩ ?_);rintro ⟨i,carry,borrow⟩ ρ1 w1 ⟨hk,hil,hcM,hbl,hW,A,hA,hAd,hAk,hS,hB⟩;simp only at hk hil hcM hbl hAk hS;have hV1:=hV.upd' hW hn;refine wpe_k _ hk ?_;clear hk ρ1;refine rj fun K=>K8 rfl (rm [0,1,2,7,8,14,15,16,17] K ?_);refine zA ?_;refine K0 rfl ?_ ?_<;>intro hc
 · have hlt:i<vs.length:=t_lt hc;clear hc;obtain ⟨b2,o2,cs2,hpv,hB2,hv2⟩:=hV1 i hlt;have hix:o+((i:Nat):Int).toNat*1=o+i:=by omega
   refine sk (zA (zG (rJ fun K=>K1 (zO (b:=b2) (o:=o2) zX (congrArg (fun p=>Value.slice p vs.length cv) hpv) rfl (by omega) (by omega) (K1 (zD zAT rfl hB2 (by simpa using hv2) (ag (ag (rm [0,1,2,7,8,9,10,14,15,16] K ?_)))))))));refine rJ fun K=>mv (K1 (zC hb192 (CallK.of_ret (zJS (hVd.getD i) ht _) fun v1 w3 hE hr => ?_) rfl));obtain ⟨hw3,hi,lo,rfl,e1,hlo⟩:=hr;clear hE;subst w3;obtain ⟨l1,c1,run1,e2,hl1,hc1⟩:=zKB lo carry hlo hcM;have n1:=zMR (hVd.getD i) ht hcM e1 e2;obtain ⟨u1,b1,run2,e3,hu1,hb1l⟩:=zLS (A.getD (o+i) 0) l1 borrow (hAd.getD _) hl1 hbl;refine mv (xt rfl (xt rfl (ag (ag (rm [0,1,2,7,8,9,11,12,14,15,16] K ?_)))));refine rJ fun K=>mv (K1 (zCw (run1 _) rfl rfl (mv (xt rfl (xt rfl (ag (ag (rm [0,1,2,7,8,9,11,12,13,14,15,16] K ?_))))))));refine rJ fun K=>mv (K1 (zCD (hi+c1) rfl rfl rfl n1 (ag (rm [0,1,2,7,8,9,12,14,15,16] K ?_))));refine rI fun K=>mv (mv (mv (K1 (zO (b:=b) (o:=o) (ix:=((i:Nat):Int)) zX rfl rfl (by omega) (by omega) ?_))));refine K1 (zD zAT rfl hB (by rw [hix];exact zEa A (o+i) (by omega)) ?_);refine mv (mv (K1 (zCw (run2 _) rfl rfl (mv (xt rfl (xt rfl (K1 (zO (b:=b) (o:=o) (ix:=((i:Nat):Int)) zX rfl rfl (by omega) (by omega) ?_))))))))
   refine K1 (zZ zCU rfl hB rfl (by rw [hix,zAl];omega) (by decide) rfl fun w4 hX hN => ?_);refine ag (rl K (zT (zN (K5 [0,1,2,7,8,14,15,16] ?_))));refine K6 fun K=>K8 rfl (mv (rl K (zV ?_)));exact ⟨rfl,(i+1,hi+c1,b1),⟨⟨rfl,rfl,rfl,rfl,rfl,rfl,rfl,rfl,rfl,rfl,rfl,rfl,rfl,rfl,rfl,congrArg (Value.int .i64) (zAD (by omega)),trivial⟩,by simp only;omega,n1,hb1l,hW.trans hX,_,by simp [hA],hAd.set _ hu1,fun k hk=>by rw [getD_set_ne (by omega)];exact hAk k (by omega),by rw [zJp (by omega),seg,nat64_take_succ',← hAk (o+i) (Or.inr (Nat.le_refl _)),Nat.pow_succ];exact take_step hS e1 e2 e3,zBh hN hix⟩,by simp only;omega⟩
 · have hge:=f_lt hc;obtain rfl:i=vs.length:=by omega
   clear hc;have hix:o+((vs.length:Nat):Int).toNat*1=o+vs.length:=by omega
   obtain ⟨u1,b1,run3,e3,hu1,hb1l⟩:=zLS (A.getD (o+vs.length) 0) carry borrow (hAd.getD _) hcM hbl;refine zi (zAE (zv (zP (zN (rJ fun K=>mv (K1 (zJ zX rfl (mv (mv (K1 (zJ zX rfl (K1 (zO (b:=b) (o:=o) (ix:=((vs.length:Nat):Int)) zX rfl rfl (by omega) (by omega) ?_)))))))))))));refine K1 (zD zAT rfl hB (by rw [hix];exact zEa A (o+vs.length) (by omega)) ?_);refine mv (mv (K1 (zCw (run3 _) rfl rfl (mv (xt rfl (xt rfl (K1 (zO (b:=b) (o:=o) (ix:=((vs.length:Nat):Int)) zX rfl rfl (by omega) (by omega) ?_))))))));refine K1 (zZ zCU rfl hB rfl (by rw [hix,zAl];omega) (by decide) rfl fun w4 hX hN => ?_);refine ag (rm [0,1,2,7,8,14,15,16] K ?_);refine rJ fun K=>K8 rfl (ag (rm [0,1,2,6,7,8,14,15,16] K ?_));refine zE (zQ ?_);exact ⟨rfl,_,zm rfl rfl,_,b1,rfl,hb1l,hW.trans hX,zBh hN hix,by simp [hA],hAd.set _ hu1,fun k hk=>by rw [getD_set_ne (by omega)];exact hAk k (by omega),by rw [zJp (by omega),seg,← hAk (o+vs.length) (Or.inr (Nat.le_refl _)),Nat.pow_succ];rw [List.take_length] at hS;exact take_last hS e3⟩
theorem give_ok {lu cv:Nat} {vs:List Nat} (hU:Blk w b 164 (dv U)) (hUd:Dig U) (hV:Rd w pv vs) (hVd:Dig vs) (hn:∀ a,pv=some a→0<vs.length→a.block≠b) (ht:t<18446744073709551616) (hlu:vs.length<lu) (ho:o+lu≤U.length) (hbig:lu<4611686018427387904):CallK prog 270 #[.slice (some ⟨b,o,none⟩) lu cu,.slice pv vs.length cv,.int .u64 (t:Int)] w (fun v w'=>∃ U' c,c≤1∧Upd b w w'∧Blk w' b 164 (dv U')∧U'.length=U.length∧Dig U'∧(∀ k,k<o∨o+vs.length<k→U'.getD k 0=U.getD k 0)∧seg U' o (vs.length+1)+18446744073709551616^(vs.length+1)*c=seg U o (vs.length+1)+t*nat64 vs):=by
 refine zBj 64 func270 rfl rfl (Nat.le_of_ble_eq_true rfl) (rj fun K=>ag (ag (rm [0,1,2,6,7] K ?_)));refine zA (rJ fun K=>K1 (zJ zX rfl (mv (rm [0,1,2,6,7,13,14,15] K ?_))));refine zG (zo (X:=Nat×Nat×Nat) (fun p ρ w'=>Keep ρ [(0,.slice (some ⟨b,o,none⟩) lu cu),(1,.slice pv vs.length cv),(2,.int .u64 (t:Nat)),(6,.int .u64 (p.2.1:Nat)),(7,.int .u64 (p.2.2:Nat)),(13,.slice pv vs.length cv),(14,.int .i64 (vs.length:Nat)),(15,.int .i64 (p.1:Nat))]∧p.1≤vs.length∧p.2.1<18446744073709551616∧p.2.2≤1∧Upd b w w'∧∃ A,A.length=U.length∧Dig A∧(∀ k,k<o∨o+p.1≤k→A.getD k 0=U.getD k 0)∧seg A o p.1+18446744073709551616^p.1*(p.2.1+p.2.2)=seg U o p.1+t*nat64 (vs.take p.1)∧Blk w' b 164 (dv A)) (fun p=>vs.length-p.1) (0,0,0) ⟨(kp rfl),Nat.zero_le _,by decide,by decide,Upd.refl b w,U,rfl,hUd,fun _ _=>rfl,by simp [seg,nat64],hU⟩ ?_);rintro ⟨i,carry,borrow⟩ ρ1 w1 ⟨hk,hil,hcM,hbl,hW,A,hA,hAd,hAk,hS,hB⟩;simp only at hk hil hcM hbl hAk hS;have hV1:=hV.upd' hW hn;refine wpe_k _ hk ?_;clear hk ρ1;refine rj fun K=>K8 rfl (rm [0,1,2,6,7,13,14,15,16] K ?_);refine zA ?_;refine K0 rfl ?_ ?_<;>intro hc
 · have hlt:i<vs.length:=t_lt hc;clear hc;obtain ⟨b2,o2,cs2,hpv,hB2,hv2⟩:=hV1 i hlt;have hix:o+((i:Nat):Int).toNat*1=o+i:=by omega
   refine sk (zA (zG (rJ fun K=>K1 (zO (b:=b2) (o:=o2) zX (congrArg (fun p=>Value.slice p vs.length cv) hpv) rfl (by omega) (by omega) (K1 (zD zAT rfl hB2 (by simpa using hv2) (ag (ag (rm [0,1,2,6,7,8,9,13,14,15] K ?_)))))))));refine rJ fun K=>mv (K1 (zC hb192 (CallK.of_ret (zJS (hVd.getD i) ht _) fun v1 w3 hE hr => ?_) rfl));obtain ⟨hw3,hi,lo,rfl,e1,hlo⟩:=hr;clear hE;subst w3;obtain ⟨l1,c1,run1,e2,hl1,hc1⟩:=zKB lo carry hlo hcM;have n1:=zMR (hVd.getD i) ht hcM e1 e2;obtain ⟨u1,b1,run2,e3,hu1,hb1l⟩:=zFi (A.getD (o+i) 0) l1 borrow (hAd.getD _) hl1 hbl;refine mv (xt rfl (xt rfl (ag (ag (rm [0,1,2,6,7,8,10,11,13,14,15] K ?_)))));refine rJ fun K=>mv (K1 (zCw (run1 _) rfl rfl (mv (xt rfl (xt rfl (ag (ag (rm [0,1,2,6,7,8,10,11,12,13,14,15] K ?_))))))));refine rJ fun K=>mv (K1 (zCD (hi+c1) rfl rfl rfl n1 (ag (rm [0,1,2,6,7,8,11,13,14,15] K ?_))));refine rI fun K=>mv (mv (mv (K1 (zO (b:=b) (o:=o) (ix:=((i:Nat):Int)) zX rfl rfl (by omega) (by omega) ?_))));refine K1 (zD zAT rfl hB (by rw [hix];exact zEa A (o+i) (by omega)) ?_);refine mv (mv (K1 (zCw (run2 _) rfl rfl (mv (xt rfl (xt rfl (K1 (zO (b:=b) (o:=o) (ix:=((i:Nat):Int)) zX rfl rfl (by omega) (by omega) ?_))))))))
   refine K1 (zZ zCU rfl hB rfl (by rw [hix,zAl];omega) (by decide) rfl fun w4 hX hN => ?_);refine ag (rl K (zT (zN (K5 [0,1,2,6,7,13,14,15] ?_))));refine K6 fun K=>K8 rfl (mv (rl K (zV ?_)));exact ⟨rfl,(i+1,hi+c1,b1),⟨⟨rfl,rfl,rfl,rfl,rfl,rfl,rfl,rfl,rfl,rfl,rfl,rfl,rfl,rfl,rfl,congrArg (Value.int .i64) (zAD (by omega)),trivial⟩,by simp only;omega,n1,hb1l,hW.trans hX,_,by simp [hA],hAd.set _ hu1,fun k hk=>by rw [getD_set_ne (by omega)];exact hAk k (by omega),by rw [zJp (by omega),seg,nat64_take_succ',← hAk (o+i) (Or.inr (Nat.le_refl _)),Nat.pow_succ];exact give_step hS e1 e2 e3,zBh hN hix⟩,by simp only;omega⟩
 · have hge:=f_lt hc;obtain rfl:i=vs.length:=by omega
   clear hc;have hix:o+((vs.length:Nat):Int).toNat*1=o+vs.length:=by omega
   obtain ⟨u1,b1,run3,e3,hu1,hb1l⟩:=zFi (A.getD (o+vs.length) 0) carry borrow (hAd.getD _) hcM hbl;refine zi (zAE (zv (zP (zN (rI fun K=>mv (K1 (zJ zX rfl (mv (mv (K1 (zJ zX rfl (K1 (zO (b:=b) (o:=o) (ix:=((vs.length:Nat):Int)) zX rfl rfl (by omega) (by omega) ?_)))))))))))));refine K1 (zD zAT rfl hB (by rw [hix];exact zEa A (o+vs.length) (by omega)) ?_);refine mv (mv (K1 (zCw (run3 _) rfl rfl (mv (xt rfl (xt rfl (K1 (zO (b:=b) (o:=o) (ix:=((vs.length:Nat):Int)) zX rfl rfl (by omega) (by omega) ?_))))))));refine K1 (zZ zCU rfl hB rfl (by rw [hix,zAl];omega) (by decide) rfl fun w4 hX hN => ?_);refine rl K (zGw ?_);exact ⟨rfl,_,zBd rfl,_,b1,hb1l,hW.trans hX,zBh hN hix,by simp [hA],hAd.set _ hu1,fun k hk=>by rw [getD_set_ne (by omega)];exact hAk k (by omega),by rw [zJp (by omega),seg,← hAk (o+vs.length) (Or.inr (Nat.le_refl _)),Nat.pow_succ];rw [List.take_length] at hS;exact give_last hS e3⟩
end Go.Proofs.YtjiendlfobjanaaGreatDoor
namespace Go.Proofs.YtjiendlfobjanaaGreatDoor
open Go Go.RowKit Go.Proofs Tryz
variable {O U xs:List Nat} {V X a b c e j k n o:Nat}
theorem zEJ:∀ {O:List Nat} {j:Nat} (d:Nat),j<O.length→nat64 (O.set j d)+18446744073709551616^j*O.getD j 0=nat64 O+18446744073709551616^j*d
 | [],_,_,h=>by simp at h
 | x :: O,0,d,_=>by simp [nat64];omega
 | x :: O,j+1,d,h=>by
  have ih:=zEJ (O:=O) (j:=j) d (by simpa using h);simp only [List.set_cons_succ,nat64,List.getD_cons_succ,Nat.pow_succ];rw [Nat.mul_comm (18446744073709551616^j) 18446744073709551616,Nat.mul_assoc,Nat.mul_assoc];have k2:=congrArg (18446744073709551616 * ·) ih
  simp only [Nat.mul_add] at k2;omega
theorem pow64 (s:Nat):18446744073709551616^s=2^(64*s):=by
 rw [show (18446744073709551616:Nat)=2^64 from by decide,← Nat.pow_mul]
theorem zFa (k:Nat):18446744073709551616^(k/64)*2^(k%64)=2^k:=by
 rw [pow64,← Nat.pow_add,Nat.div_add_mod]
theorem zLI (h:e<64):2^(64-e)*2^e=18446744073709551616:=by
 rw [← Nat.pow_add,show 64-e+e=64 from by omega]
theorem up_digit {x:Nat} (hx:x<18446744073709551616) (he:e<64) (ho:o<2^e) :
 (o ||| x*2^e%18446744073709551616)=o+x*2^e%18446744073709551616∧o+x*2^e%18446744073709551616<18446744073709551616 ∧
 x/2^(64-e)<2^e∧x*2^e%18446744073709551616+18446744073709551616*(x/2^(64-e))=x*2^e:=by
 have hM:=zLI he;have hp:0<2^(64-e):=Nat.pow_pos (by decide);have hpe:0<2^e:=Nat.pow_pos (by decide);have hdm:=Nat.div_add_mod x (2^(64-e));have hr:=Nat.mod_lt x hp;have hxe:x*2^e=18446744073709551616*(x/2^(64-e))+x%2^(64-e)*2^e:=by
  conv=>lhs;rw [← hdm]
  rw [Nat.add_mul,Nat.mul_right_comm,hM]
 have hlt:x%2^(64-e)*2^e+2^e≤18446744073709551616:=by
  rw [← hM,← Nat.succ_mul];exact Nat.mul_le_mul_right _ hr
 have hlo:x*2^e%18446744073709551616=x%2^(64-e)*2^e:=by
  rw [hxe,Nat.mul_add_mod];exact Nat.mod_eq_of_lt (by omega)
 refine ⟨?_,?_,?_,?_⟩
 · rw [hlo,Nat.or_comm,zNG ho,Nat.add_comm]
 · rw [hlo];omega
 · rw [Nat.div_lt_iff_lt_mul hp,Nat.mul_comm,hM];exact hx
 · rw [hlo,hxe];omega
theorem down_digit {x y:Nat} (hx:x<18446744073709551616) (he:e<64) :
 (x/2^e ||| y*2^(64-e)%18446744073709551616)=x/2^e+y%2^e*2^(64-e)∧x/2^e+y%2^e*2^(64-e)<18446744073709551616 ∧
 (x/2^e+y%2^e*2^(64-e))*2^e+x%2^e=x+18446744073709551616*(y%2^e):=by
 have hM:=zLI he;have hpe:0<2^e:=Nat.pow_pos (by decide);have hp:0<2^(64-e):=Nat.pow_pos (by decide);have hq:x/2^e<2^(64-e):=by rw [Nat.div_lt_iff_lt_mul hpe,hM];exact hx
 have hlo:y*2^(64-e)%18446744073709551616=y%2^e*2^(64-e):=by
  rw [← hM,Nat.mul_comm (2^(64-e)) (2^e),Nat.mul_mod_mul_right]
 have hle:y%2^e*2^(64-e)+2^(64-e)≤18446744073709551616:=by
  rw [← hM,← Nat.succ_mul,Nat.mul_comm (2^(64-e)) (2^e)];exact Nat.mul_le_mul_right _ (Nat.mod_lt y hpe)
 refine ⟨?_,by omega,?_⟩
 · rw [hlo,Nat.or_comm,zNG hq,Nat.add_comm]
 · have h1:=Nat.div_add_mod x (2^e);rw [Nat.add_mul,Nat.mul_assoc,hM,Nat.mul_comm (y%2^e),Nat.mul_comm (x/2^e)];omega
theorem zEl (h:j<U.length):nat64 (U.drop j)=U.getD j 0+18446744073709551616*nat64 (U.drop (j+1)):=by
 rw [List.drop_eq_getElem_cons h,nat64];simp [h]
theorem nat64_drop_div (U:List Nat) (h:Dig U) (s:Nat):nat64 (U.drop s)=nat64 U/18446744073709551616^s:=by
 by_cases hs:s≤U.length
 · have h1:=zEK U s;rw [Nat.min_eq_left hs] at h1;have h2:=zCE (U.take s) (h.take s);rw [List.length_take,Nat.min_eq_left hs] at h2;rw [h1,Nat.add_mul_div_left _ _ (Nat.pow_pos (by decide)),Nat.div_eq_of_lt h2,Nat.zero_add]
 · have h2:=zCE U h;have h3:18446744073709551616^U.length≤18446744073709551616^s:=Nat.pow_le_pow_right (by decide) (by omega);rw [List.drop_eq_nil_of_le (by omega),Nat.div_eq_of_lt (by omega)];rfl
theorem down_end {x0:Nat} (h:nat64 O*2^e+x0%2^e=nat64 xs):nat64 O=nat64 xs/2^e:=by
 have hpe:0<2^e:=Nat.pow_pos (by decide);rw [← h,Nat.mul_comm,Nat.mul_add_div hpe,Nat.div_eq_of_lt (Nat.mod_lt _ hpe),Nat.add_zero]
theorem zHQ (U:List Nat) (o:Nat):∀ n,seg U o (n+1)=U.getD o 0+18446744073709551616*seg U (o+1) n
 | 0=>by simp [seg]
 | n+1=>by
  have ih:=zHQ U o n;rw [seg,ih,seg,Nat.pow_succ,Nat.mul_add,show o+1+n=o+(n+1) from by omega,Nat.mul_comm (18446744073709551616^n) 18446744073709551616,Nat.mul_assoc];omega
theorem zNQ (hU:Dig U) (h:seg U o (n+1)<V) (hV:V≤18446744073709551616^n):U.getD (o+n) 0=0∧seg U o n=seg U o (n+1):=by
 have h1:U.getD (o+n) 0=0:=by
  rcases Nat.eq_zero_or_pos (U.getD (o+n) 0) with h0 | h0
  · exact h0
  · have:=Nat.mul_le_mul_left (18446744073709551616^n) h0;rw [seg] at h;omega
 exact ⟨h1,by rw [seg,h1,Nat.mul_zero,Nat.add_zero]⟩
theorem guess_le {lo T B vt g:Nat} (hX:X=lo+B*T) (hlo:lo<B) (hV:vt*B≤V) (hg:T<(g+1)*vt):X<(g+1)*V:=by
 have h1:X<B*(T+1):=by rw [hX,Nat.mul_add];omega
 have h2:B*(T+1)≤B*((g+1)*vt):=Nat.mul_le_mul_left B hg;have h3:(g+1)*(vt*B)≤(g+1)*V:=Nat.mul_le_mul_left _ hV;have h4:B*((g+1)*vt)=(g+1)*(vt*B):=by rw [Nat.mul_comm B,Nat.mul_assoc]
 omega
theorem guess_top (hn:2≤n):seg U j (n+1)=seg U j (n-1)+18446744073709551616^(n-1)*(U.getD (j+n) 0*18446744073709551616+U.getD (j+n-1) 0):=by
 obtain ⟨m,rfl⟩:∃ m,n=m+1:=⟨n-1,by omega⟩;rw [seg,seg,Nat.add_sub_cancel,show j+(m+1)-1=j+m from by omega,Nat.pow_succ,Nat.mul_add,Nat.mul_assoc,Nat.mul_comm (U.getD (j+(m+1)) 0)];omega
theorem take_res {S S' g B:Nat} (h:S'+g*V=S+B*c) (hc:c≤1) (hS:S<B) (hS':S'<B) (hX:S<(g+1)*V) (hV:V≤B) :
 (c=0→S'+g*V=S∧S'<V)∧(c=1→S<g*V∧1≤g):=by
 rw [Nat.add_mul,Nat.one_mul] at hX;refine ⟨fun e => ?_,fun e => ?_⟩
 · subst e;rw [Nat.mul_zero] at h;omega
 · subst e;rw [Nat.mul_one] at h;have h1:S<g*V:=by omega
   refine ⟨h1,?_⟩;rcases Nat.eq_zero_or_pos g with h0 | h0
   · subst h0;simp at h1
   · exact h0
theorem give_res {S S' S'' g B:Nat} (h:S'+g*V=S+B*1) (h2:S''+B*c=S'+g*V) (hc:c≤1) (hS:S<B) (hS'':S''<B):S''=S:=by
 rcases Nat.le_one_iff_eq_zero_or_eq_one.1 hc with e | e<;>subst e
 · omega
 · omega
theorem div_step {N0 u0 N1 Q1 R1 S g Q0:Nat} (h0:N0=u0+18446744073709551616*N1) (h1:Q1*V+R1=N1) (hX:X=u0+18446744073709551616*R1) (hS:S+g*V=X) (hQ:Q0=g+18446744073709551616*Q1):Q0*V+S=N0:=by
 subst hQ h0 h1;rw [Nat.add_mul,Nat.mul_add,Nat.mul_assoc];omega
theorem div_end {Q R:Nat} (h:Q*(b*2^k)+R=a*2^k) (hR:R<b*2^k) (hb:0<b):Q=a/b∧R/2^k=a%b:=by
 have hp:0<2^k:=Nat.pow_pos (by decide);have hd:2^k∣R:=by
  have h1:2^k∣Q*(b*2^k)+R:=by rw [h];exact Nat.dvd_mul_left _ _
  exact (Nat.dvd_add_right ⟨Q*b,by rw [← Nat.mul_assoc,Nat.mul_comm]⟩).1 h1
 obtain ⟨r,rfl⟩:=hd;have h2:Q*b+r=a:=by
  have h3:2^k*(Q*b+r)=2^k*a:=by
   rw [Nat.mul_add,Nat.mul_comm (2^k) (Q*b),Nat.mul_assoc,h,Nat.mul_comm]
  exact Nat.eq_of_mul_eq_mul_left hp h3
 have h4:r<b:=by
  rw [Nat.mul_comm b] at hR;exact Nat.lt_of_mul_lt_mul_left hR
 rw [Nat.mul_div_cancel_left r hp];have h5:=Nat.div_mod_unique (b:=b) (a:=a) (c:=r) (d:=Q) hb |>.2 ⟨by rw [Nat.mul_comm];omega,h4⟩;exact ⟨h5.1.symm,h5.2.symm⟩
end Go.Proofs.YtjiendlfobjanaaGreatDoor
namespace Go.Proofs.YtjiendlfobjanaaGreatDoor
open Go Go.RowKit Go.Proofs Tryz
set_option maxRecDepth 10000
set_option maxHeartbeats 2000000
attribute [local irreducible] Runs WPE CallK Ret
variable {N ca cap e i k n sz':Nat} {O ds xs:List Nat} {p pa:Option Addr} {v:Value} {w w':World}
theorem up_step (hO:O.length=N) (hN:xs.length+k/64+1=N) (hOd:Dig O) (hxd:Dig xs) (hi:i<xs.length)
 (hn:nat64 O=nat64 (xs.take i)*2^k) (hlo:O.getD (i+k/64) 0<2^(k%64)) (hz:∀ j,i+k/64<j→O.getD j 0=0) :
 ∃ lo hi,O.getD (i+k/64) 0 ||| (xs.getD i 0*2^(k%64)%18446744073709551616)=lo∧lo<18446744073709551616∧xs.getD i 0/2^(64-k%64)=hi∧hi<18446744073709551616 ∧
  Dig ((O.set (i+k/64) lo).set (i+k/64+1) hi)∧nat64 ((O.set (i+k/64) lo).set (i+k/64+1) hi)=nat64 (xs.take (i+1))*2^k ∧
  ((O.set (i+k/64) lo).set (i+k/64+1) hi).getD (i+1+k/64) 0<2^(k%64)∧(∀ j,i+1+k/64<j→((O.set (i+k/64) lo).set (i+k/64+1) hi).getD j 0=0):=by
 have he:k%64<64:=Nat.mod_lt _ (by decide);have hx:=hxd.getD i;obtain ⟨d1,d2,d3,d4⟩:=up_digit hx he hlo;have h2e:2^(k%64)≤18446744073709551616:=by
  rw [show (18446744073709551616:Nat)=2^64 from by decide];exact Nat.pow_le_pow_right (by decide) (by omega)
 refine ⟨_,_,d1,d2,rfl,by omega,(hOd.set _ d2).set _ (by omega),?_,?_,?_⟩
 all_goals clear d1
 all_goals generalize xs.getD i 0*2^(k%64)%18446744073709551616=l0 at *
 all_goals generalize xs.getD i 0/2^(64-k%64)=hi at *
 · have s1:=zEJ (O:=O) (j:=i+k/64) (O.getD (i+k/64) 0+l0) (by omega);have s2:=zEJ (O:=O.set (i+k/64) (O.getD (i+k/64) 0+l0)) (j:=i+k/64+1) hi (by simp;omega);rw [getD_set_ne (by omega),hz (i+k/64+1) (by omega),Nat.mul_zero,Nat.add_zero] at s2;rw [s2,nat64_take_succ',Nat.add_mul,← hn];have e:18446744073709551616^i*xs.getD i 0*2^k=18446744073709551616^(i+k/64)*(xs.getD i 0*2^(k%64)):=by
    rw [← zFa k,Nat.pow_add];simp only [Nat.mul_assoc,Nat.mul_left_comm,Nat.mul_comm]
   rw [e,← d4,Nat.mul_add,Nat.pow_succ,Nat.mul_assoc (18446744073709551616^(i+k/64))];rw [Nat.mul_add] at s1;omega
 · rw [show i+1+k/64=i+k/64+1 from by omega,zEH (by simp;omega)];exact d3
 · intro j hj;rw [getD_set_ne (by omega),getD_set_ne (by omega)];exact hz j (by omega)
theorem down_step (hO:O.length=xs.length) (hOd:Dig O) (hxd:Dig xs) (he:e<64) (hi:i<xs.length)
 (hn:nat64 (O.take i)*2^e+xs.getD 0 0%2^e=nat64 (xs.take i)+18446744073709551616^i*(xs.getD i 0%2^e)) :
 ∃ d,(xs.getD i 0/2^e ||| xs.getD (i+1) 0*2^(64-e)%18446744073709551616)=d∧d<18446744073709551616∧xs.getD i 0/2^e<18446744073709551616 ∧
  Dig (O.set i d)∧nat64 ((O.set i d).take (i+1))*2^e+xs.getD 0 0%2^e=nat64 (xs.take (i+1))+18446744073709551616^(i+1)*(xs.getD (i+1) 0%2^e):=by
 have hx:=hxd.getD i;obtain ⟨d1,d2,d3⟩:=down_digit (y:=xs.getD (i+1) 0) hx he;refine ⟨_,rfl,by rw [d1];exact d2,Nat.lt_of_le_of_lt (Nat.div_le_self _ _) hx,hOd.set _ (by rw [d1];exact d2),?_⟩;rw [d1];generalize xs.getD i 0/2^e+xs.getD (i+1) 0%2^e*2^(64-e)=D at *;rw [nat64_take_succ',zEH (by omega),List.take_set_of_le (by omega),nat64_take_succ',Nat.pow_succ];have k2:18446744073709551616^i*(D*2^e+xs.getD i 0%2^e)=18446744073709551616^i*(xs.getD i 0+18446744073709551616*(xs.getD (i+1) 0%2^e)):=by rw [d3]
 rw [Nat.add_mul,Nat.mul_assoc (18446744073709551616^i),Nat.mul_assoc (18446744073709551616^i)];simp only [Nat.mul_add] at k2 ⊢;omega
def UpR (sz:Nat) (xs:List Nat) (k:Nat) (v:Value) (w:World):Prop:=∃ ob ds O,v = .slice (some ⟨ob,0,none⟩) ds.length (xs.length+k/64+1)∧ds.length≤xs.length+k/64+1∧Rd w (some ⟨ob,0,none⟩) ds∧Norm ds∧nat64 ds=nat64 xs*2^k∧sz≤ob∧Blk w ob 164 (dv O)∧O.length=xs.length+k/64+1
theorem UpR.ext {sz:Nat} (h:UpR sz xs k v w) (hx:Ext w w'):UpR sz xs k v w':=by
 obtain ⟨ob,ds,O,h1,h2,h3,h4,h5,h6,h7,h8⟩:=h;exact ⟨ob,ds,O,h1,h2,h3.ext hx,h4,h5,h6,h7.ext hx,h8⟩
theorem UpR.sz {sz:Nat} (h:UpR sz xs k v w) (hs:sz'≤sz):UpR sz' xs k v w:=by
 obtain ⟨ob,ds,O,h1,h2,h3,h4,h5,h6,h7,h8⟩:=h;exact ⟨ob,ds,O,h1,h2,h3,h4,h5,by omega,h7,h8⟩
theorem cut_shape (hn:ds.length=n) (hcap:n≤cap) (hrd:Rd w p ds) (hdig:Dig ds) (hbig:n<4611686018427387904) :
 Ret prog 194 #[.slice p n cap] w (fun v w'=>∃ es,v = .slice p es.length cap∧es.length≤n∧Rd w' p es∧Norm es∧nat64 es=nat64 ds):=by
 subst hn;exact (zNi hcap hrd hdig hbig).mono fun v w' hx ⟨k,hk,hv,hn,he⟩=>⟨ds.take k,by rw [hv];simp [Nat.min_eq_left hk],by simp;omega,(hrd.ext hx).take k,hn,he⟩
theorem up_ok (ha:Rd w pa xs) (hx:Dig xs) (hl:xs.length≤4398046511104) (hk:k≤70368744177664):Ret prog 267 #[.slice pa xs.length ca,.int .i64 (k:Int)] w (fun v w'=>UpR w.heap.size xs k v w'):=by
 have E0:Ext w w:=Ext.refl w;refine J0 50 func267 rfl (rj fun K=>ag (rm [0,1] K ?_));refine rJ fun K=>K1 (zJ zX rfl (mv (K1 (zDr (b:=64) (k/64) rfl rfl (by decide) rfl (by omega) (K1 (zy (xs.length+k/64) rfl rfl rfl (by omega) (K1 (zy (b:=1) (xs.length+k/64+1) rfl rfl rfl (by omega) ?_))))))));refine K1 (zAg zDM zFX rfl rfl rfl (by omega) (by omega) (by omega) fun ob w1 hb1 hE hB hs => ?_);have hgb:w.heap.size≤ob:=Nat.le_of_eq hb1.symm;replace E0:=E0.trans hE;clear hE hs hb1;rw [show ((xs.length+k/64+1:Nat):Int).toNat=xs.length+k/64+1 from by omega,show (Value.int IntKind.u64 0).cells.toList=[Value.int IntKind.u64 0] from rfl,zCL] at hB;refine ag (rm [0,1,5] K ?_);refine zA (rJ fun K=>K1 (zJ zX rfl (mv (rm [0,1,5,15,16,17] K ?_))));refine zG ?_
 refine zo (X:=Nat) (fun i ρ w'=>Keep ρ [(0,.slice pa xs.length ca),(1,.int .i64 (k:Nat)),(5,.slice (some ⟨ob,0,none⟩) (xs.length+k/64+1) (xs.length+k/64+1)),(15,.slice pa xs.length ca),(16,.int .i64 (xs.length:Nat)),(17,.int .i64 (i:Nat))]∧i≤xs.length∧Ext w w'∧∃ O,O.length=xs.length+k/64+1∧Dig O∧nat64 O=nat64 (xs.take i)*2^k∧O.getD (i+k/64) 0<2^(k%64)∧(∀ j,i+k/64<j→O.getD j 0=0)∧Blk w' ob 164 (dv O)) (fun i=>xs.length-i) 0 ⟨(kp rfl),Nat.zero_le _,E0,List.replicate (xs.length+k/64+1) 0,by simp,zDg _,by rw [zEL];simp [nat64],by rw [zGf];exact Nat.pow_pos (by decide),fun _ _=>zGf _ _,hB⟩ ?_;clear E0 hB;rintro i ρ1 w1 ⟨hk,hil,E0,O,hO,hOd,hOn,hOl,hOz,hB⟩;refine wpe_k _ hk ?_;clear hk ρ1;refine rj fun K=>K8 rfl (rm [0,1,5,15,16,17,18] K ?_);refine zA ?_;refine K0 rfl ?_ ?_<;>intro hc
 · have hlt:i<xs.length:=t_lt hc;clear hc;obtain ⟨b2,o2,cs2,hpa,hB2,hv2⟩:=(ha.ext E0) i hlt;obtain ⟨lo,hi,e1,e2,e3,e4,e5,e6,e7,e8⟩:=up_step hO rfl hOd hx hlt hOn hOl hOz;have hix:(0:Nat)+(((i+k/64:Nat):Nat):Int).toNat*1=i+k/64:=by omega
   have he64:k%64<64:=Nat.mod_lt _ (by decide);refine sk (zA (zG (rJ fun K=>K1 (zO (b:=b2) (o:=o2) zX (congrArg (fun p=>Value.slice p xs.length ca) hpa) rfl (by omega) (by omega) (K1 (zD zAT rfl hB2 (by simpa using hv2) (ag (ag (rm [0,1,5,6,7,15,16,17] K ?_)))))))));refine zA (zJM ob mixed rfl rfl rfl hB fun K hK=>qs rfl (fun wx hE=>zF ⟨rfl,Ext.refl _⟩) (qs rfl (fun wx hE=>zF ⟨rfl,Ext.refl _⟩) (qs rfl (fun wx hE=>zF ⟨rfl,Ext.refl _⟩) (qs rfl (fun wx hE=>zDr (b:=64) (k/64) rfl rfl (by decide) rfl (by omega) ⟨rfl,Ext.refl _⟩) (qs rfl (fun wx hE=>zy (i+k/64) rfl rfl rfl (by omega) ⟨rfl,Ext.refl _⟩) (qs rfl (fun wx hE=>zO (b:=ob) (o:=0) (ix:=((i+k/64:Nat):Int)) zX rfl rfl (by omega) (by omega) ⟨rfl,Ext.refl _⟩) ?_))))));refine qs rfl (fun wx hE=>zD zAT rfl (hB.ext hE) (by rw [hix];exact zEa O (i+k/64) (by omega)) ⟨rfl,Ext.refl _⟩) ?_
   refine qs rfl (fun wx hE=>zF ⟨rfl,Ext.refl _⟩) (qs rfl (fun wx hE=>zF ⟨rfl,Ext.refl _⟩) (qs rfl (fun wx hE=>zAz (b:=64) (k%64) rfl rfl (by decide) rfl ⟨rfl,Ext.refl _⟩) (qs rfl (fun wx hE=>zEq (xs.getD i 0*2^(k%64)%18446744073709551616) rfl rfl (Nat.le_of_lt he64) rfl ⟨rfl,Ext.refl _⟩) (qs rfl (fun wx hE=>zJo (lo) rfl rfl (hOd.getD _) (Nat.mod_lt _ (by decide)) e1 ⟨rfl,Ext.refl _⟩) (qs rfl (fun wx hE=>zO (b:=ob) (o:=0) (ix:=((i+k/64:Nat):Int)) zX rfl rfl (by omega) (by omega) ⟨rfl,Ext.refl _⟩) ?_)))));refine zNL (dv (O.set (i+k/64) lo)) (fun wx hE hBx=>zZ zCU rfl hBx rfl (by rw [hix,zAl];omega) (by decide) rfl fun w3 hU hN=>⟨hU,zBh hN hix⟩) (hK _ _ fun wq hS hN => ?_);replace E0:=E0.updS hS hgb;clear hS hB;have hB:=hN;clear hN;refine zN (K5 [0,1,5,6,7,15,16,17] ?_);refine rI fun K=>mv (mv (K1 (zDr (b:=64) (k/64) rfl rfl (by decide) rfl (by omega) (K1 (zy (i+k/64) rfl rfl rfl (by omega) (K1 (zy (b:=1) (i+k/64+1) rfl rfl rfl (by omega) (mv (mv (K1 (zAz (b:=64) (k%64) rfl rfl (by decide) rfl (K1 (zAS (a:=64) (64-k%64) rfl rfl (by omega) (by decide) (K1 (zDs (hi) rfl rfl (by omega) e3 (K1 (zO (b:=ob) (o:=0) (ix:=((i+k/64+1:Nat):Int)) zX rfl rfl (by omega) (by omega) ?_)))))))))))))))))
   have hix2:(0:Nat)+(((i+k/64+1:Nat):Nat):Int).toNat*1=i+k/64+1:=by omega
   refine K1 (zZ zCU rfl hB rfl (by rw [hix2,zAl];simp;omega) (by decide) rfl fun w4 hU hN => ?_);rw [hix2] at hN;replace E0:=E0.upd hU hgb;refine rl K (zT (zN (K5 [0,1,5,15,16,17] ?_)));exact K6 fun K=>K8 rfl (mv (rl K (zV (⟨rfl,i+1,⟨⟨rfl,rfl,rfl,rfl,rfl,rfl,rfl,rfl,rfl,rfl,rfl,congrArg (Value.int .i64) (zAD (by omega)),trivial⟩,by omega,E0,_,by simp [hO],e5,e6,e7,e8,zBh hN rfl⟩,by omega⟩))))
 · have hge:=f_lt hc;obtain rfl:i=xs.length:=by omega
   clear hc;rw [List.take_length] at hOn;refine zi (zAE (zv (zP (zN (rJ fun K=>K1 (j1 E0 hB.ext hb194 (cut_shape hO (Nat.le_refl _) (Rd.of_blk hB) hOd (by omega)) fun v8_1 w1 E0 hB hr => ?_))))));obtain ⟨ds,rfl,hd1,hd2,hd3,hd4⟩:=hr;refine ag (rm [0,1,4,5,15,16,17] K ?_);exact zE (en rfl E0 ⟨ob,ds,O,rfl,hd1,hd2,hd3,by rw [hd4,hOn],hgb,hB,hO⟩)
theorem zHt (h:xs.length≤i):xs.getD i 0=0:=by
 simp [List.getElem?_eq_none h]
theorem IsW.nil (h:n=0):IsW w (.slice none 0 0) n:=⟨none,[],0,rfl,Nat.le_refl _,fun i hi=>by simp at hi,⟨fun d hd=>by simp at hd,by simp⟩,by rw [h];rfl⟩
theorem down_zero (hd:Dig ds) (h:ds.length≤k/64):nat64 ds/2^k=0:=by
 have h1:=zCE ds hd;have h2:=zFa k;have h3:18446744073709551616^ds.length≤18446744073709551616^(k/64):=Nat.pow_le_pow_right (by decide) h;have h4:1≤2^(k%64):=Nat.pow_pos (by decide);have h5:=Nat.mul_le_mul_left (18446744073709551616^(k/64)) h4;rw [h2] at h5;exact Nat.div_eq_of_lt (by omega)
theorem down_num:n/18446744073709551616^(k/64)/2^(k%64)=n/2^k:=by
 rw [Nat.div_div_eq_div_mul,zFa]
theorem drop_rd {s:Nat} (ha:Rd w pa ds) (hx:Norm ds) (hca:ds.length≤ca) (hs:s<ds.length) :
 ∃ xs pb cb,ds.length-s=xs.length∧Value.slice (if ca=s then pa else pa.map (fun a=>a.add (s*1))) (ds.length-s) (ca-s)=Value.slice pb xs.length cb∧Rd w pb xs∧Dig xs∧nat64 xs=nat64 ds/18446744073709551616^s:=by
 refine ⟨ds.drop s,if ca=s then pa else pa.map (fun a=>a.add (s*1)),ca-s,by simp,by simp,?_,hx.1.drop s,nat64_drop_div ds hx.1 s⟩;intro i hi;rw [List.length_drop] at hi;obtain ⟨b,o,cs,h1,h2,h3⟩:=ha (s+i) (by omega);refine ⟨b,o+s,cs,?_,h2,?_⟩
 · rw [if_neg (by omega),h1];simp [zAk]
 · rw [show o+s+i=o+(s+i) from by omega,h3];simp
theorem down_ok {x:Value} (hxw:IsW w x n) (hl:n.log2<17592186044416) (hk:k≤70368744177664):Ret prog 271 #[x,.int .i64 (k:Int)] w (fun v w'=>IsW w' v (n/2^k)):=by
 obtain ⟨pa,ds,ca,rfl,hca,ha,hx,hxv⟩:=hxw;subst hxv;have hlx:=hx.len_le hl;have E0:Ext w w:=Ext.refl w;refine J0 57 func271 rfl (rj fun K=>ag (rm [0,1] K ?_));refine zA (rJ fun K=>K1 (zDr (b:=64) (k/64) rfl rfl (by decide) rfl (by omega) (mv (K1 (zJ zX rfl (K8 rfl (rm [0,1,12] K ?_)))))));refine K0 rfl ?_ ?_<;>intro hc
 · have hge:ds.length≤k/64:=by have:=of_decide_eq_true hc;omega
   clear hc;refine rj fun K=>ag (rm [0,1,4] K ?_);exact zE (zY (en rfl E0 (IsW.nil (down_zero hx.1 hge))))
 · have hlt:k/64<ds.length:=by have:=of_decide_eq_false hc;omega
   clear hc;obtain ⟨xs,pb,cb,hxl,hpb,hxr,hxd,hxv⟩:=drop_rd ha hx hca hlt;refine sk (rJ fun K=>mv (K1 (zDr (b:=64) (k/64) rfl rfl (by decide) rfl (by omega) (K1 (zEp zX rfl rfl (by omega) (by omega) ?_)))));rw [show ((k/64:Nat):Int).toNat=k/64 from by omega,hpb];refine ag (rm [0,1] K ?_);refine rJ fun K=>K1 (zJ zX rfl ?_);refine K1 (zAg zDM zFX rfl rfl rfl (by omega) (by omega) (by omega) fun ob w1 hb1 hE hB hs => ?_);have hgb:w.heap.size≤ob:=Nat.le_of_eq hb1.symm;replace E0:=E0.trans hE;clear hE hs hb1;rw [show ((xs.length:Nat):Int).toNat=xs.length from by omega,show (Value.int IntKind.u64 0).cells.toList=[Value.int IntKind.u64 0] from rfl,zCL] at hB;refine ag (rm [0,1,5] K ?_);refine zA (rJ fun K=>K1 (zJ zX rfl (mv (rm [0,1,5,20,21,22] K ?_))))
   refine zG (zo (X:=Nat) (fun i ρ w'=>Keep ρ [(0,.slice pb xs.length cb),(1,.int .i64 (k:Nat)),(5,.slice (some ⟨ob,0,none⟩) xs.length xs.length),(20,.slice pb xs.length cb),(21,.int .i64 (xs.length:Nat)),(22,.int .i64 (i:Nat))]∧i≤xs.length∧Ext w w'∧∃ O,O.length=xs.length∧Dig O∧nat64 (O.take i)*2^(k%64)+xs.getD 0 0%2^(k%64)=nat64 (xs.take i)+18446744073709551616^i*(xs.getD i 0%2^(k%64))∧Blk w' ob 164 (dv O)) (fun i=>xs.length-i) 0 ⟨(kp rfl),Nat.zero_le _,E0,List.replicate xs.length 0,by simp,zDg _,by simp [nat64],hB⟩ ?_);clear E0 hB;rintro i ρ1 w1 ⟨hk,hil,E0,O,hO,hOd,hOn,hB⟩;refine wpe_k _ hk ?_;clear hk ρ1;refine rj fun K=>K8 rfl (rm [0,1,5,20,21,22,23] K ?_);refine zA ?_;refine K0 rfl ?_ ?_<;>intro hc
   · have hlt2:i<xs.length:=t_lt hc;clear hc;obtain ⟨b2,o2,cs2,hpa,hB2,hv2⟩:=(hxr.ext E0) i hlt2;have he64:k%64<64:=Nat.mod_lt _ (by decide);obtain ⟨d,e1,e2,e3,e4,e5⟩:=down_step hO hOd hxd he64 hlt2 hOn;have hix:(0:Nat)+((i:Nat):Int).toNat*1=i:=by omega
     refine sk (zA (zG (rJ fun K=>K1 (zO (b:=b2) (o:=o2) zX (congrArg (fun p=>Value.slice p xs.length cb) hpa) rfl (by omega) (by omega) (K1 (zD zAT rfl hB2 (by simpa using hv2) (ag (ag (rm [0,1,5,6,7,20,21,22] K ?_)))))))));refine rJ fun K=>mv (mv (mv (K1 (zAz (b:=64) (k%64) rfl rfl (by decide) rfl (K1 (zDs (xs.getD i 0/2^(k%64)) rfl rfl (Nat.le_of_lt he64) rfl (K1 (zO (b:=ob) (o:=0) (ix:=((i:Nat):Int)) zX rfl rfl (by omega) (by omega) ?_))))))));refine K1 (zZ zCU rfl hB rfl (by rw [hix,zAl];omega) (by decide) rfl fun w4 hU hN => ?_);rw [hix] at hN;replace E0:=E0.upd hU hgb;clear hB;have hB:=zBh hN rfl;clear hN hU;refine rm [0,1,5,6,20,21,22] K ?_;refine rJ fun K=>K1 (zy (b:=1) (i+1) rfl rfl rfl (by omega) (mv (K1 (zJ zX rfl (K8 rfl (rm [0,1,5,6,20,21,22,38] K ?_))))));refine K0 rfl ?_ ?_<;>intro hc
     · have hlt3:i+1<xs.length:=t_lt hc;clear hc;obtain ⟨b3,o3,cs3,hpb3,hB3,hv3⟩:=(hxr.ext E0) (i+1) hlt3;have hix2:((i+1:Nat):Int).toNat*1=i+1:=by omega
       refine zJM ob mixed rfl rfl rfl hB fun K hK=>qs rfl (fun wx hE=>zF ⟨rfl,Ext.refl _⟩) (qs rfl (fun wx hE=>zF ⟨rfl,Ext.refl _⟩) (qs rfl (fun wx hE=>zO (b:=ob) (o:=0) (ix:=((i:Nat):Int)) zX rfl rfl (by omega) (by omega) ⟨rfl,Ext.refl _⟩) ?_));refine qs rfl (fun wx hE=>zD zAT rfl (hB.ext hE) (by rw [hix];exact (zEa _ i (by simp;omega)).trans (congrArg (fun z:Nat=>some (Value.int .u64 (z:Int))) (zEH (by omega)))) ⟨rfl,Ext.refl _⟩) ?_;refine qs rfl (fun wx hE=>zF ⟨rfl,Ext.refl _⟩) (qs rfl (fun wx hE=>zF ⟨rfl,Ext.refl _⟩) (qs rfl (fun wx hE=>zy (b:=1) (i+1) rfl rfl rfl (by omega) ⟨rfl,Ext.refl _⟩) (qs rfl (fun wx hE=>zO (b:=b3) (o:=o3) (ix:=((i+1:Nat):Int)) zX (congrArg (fun p=>Value.slice p xs.length cb) hpb3) rfl (by omega) (by omega) ⟨rfl,Ext.refl _⟩) ?_)));refine qs rfl (fun wx hE=>zD zAT rfl (hB3.ext hE) (by rw [hix2];exact hv3) ⟨rfl,Ext.refl _⟩) ?_
       refine qs rfl (fun wx hE=>zF ⟨rfl,Ext.refl _⟩) (qs rfl (fun wx hE=>zAz (b:=64) (k%64) rfl rfl (by decide) rfl ⟨rfl,Ext.refl _⟩) (qs rfl (fun wx hE=>zAS (a:=64) (64-k%64) rfl rfl (by omega) (by decide) ⟨rfl,Ext.refl _⟩) (qs rfl (fun wx hE=>zEq (xs.getD (i+1) 0*2^(64-k%64)%18446744073709551616) rfl rfl (by omega) rfl ⟨rfl,Ext.refl _⟩) (qs rfl (fun wx hE=>zJo (d) rfl rfl e3 (Nat.mod_lt _ (by decide)) e1 ⟨rfl,Ext.refl _⟩) (qs rfl (fun wx hE=>zO (b:=ob) (o:=0) (ix:=((i:Nat):Int)) zX rfl rfl (by omega) (by omega) ⟨rfl,Ext.refl _⟩) ?_)))));refine zNL (dv ((O.set i (xs.getD i 0/2^(k%64))).set i d)) (fun wx hE hBx=>zZ zCU rfl hBx rfl (by rw [hix,zAl];simp;omega) (by decide) rfl fun w3 hU hN=>⟨hU,zBh hN hix⟩) (hK _ _ fun wq hS hN => ?_);replace E0:=E0.updS hS hgb;clear hS hB;have hB:=hN;clear hN;rw [List.set_set] at hB;refine zT (zN (K5 [0,1,5,20,21,22] ?_));exact K6 fun K=>K8 rfl (mv (rl K (zV (⟨rfl,i+1,⟨⟨rfl,rfl,rfl,rfl,rfl,rfl,rfl,rfl,rfl,rfl,rfl,congrArg (Value.int .i64) (zAD (by omega)),trivial⟩,by omega,E0,_,by simp [hO],e4,e5,hB⟩,by omega⟩))))
     · have hge3:=f_lt hc;clear hc;rw [zHt hge3,Nat.zero_mul,Nat.zero_mod,Nat.or_zero] at e1;subst e1;exact zz (zT (zN (K6 fun K=>K8 rfl (mv (rl K (zV (⟨rfl,i+1,⟨⟨rfl,rfl,rfl,rfl,rfl,rfl,rfl,rfl,rfl,rfl,rfl,congrArg (Value.int .i64) (zAD (by omega)),trivial⟩,by omega,E0,_,by simp [hO],e4,e5,hB⟩,by omega⟩)))))))
   · have hge:=f_lt hc;obtain rfl:i=xs.length:=by omega
     clear hc;rw [List.take_length,zHt (Nat.le_refl _),Nat.zero_mod,Nat.mul_zero,Nat.add_zero,List.take_of_length_le (by omega)] at hOn;refine zi (zAE (zv (zP (zN (rJ fun K=>K1 (j0 E0 hb194 (zEC hO (Nat.le_refl _) (Rd.of_blk hB) hOd (by omega)) fun v12_1 w1 E0 hr => ?_))))));refine ag (rm [0,1,4,5,20,21,22] K ?_);refine zE (zQ ?_);rw [down_end hOn,hxv,down_num] at hr;exact ⟨rfl,_,zm rfl rfl,E0,hr⟩
variable {L a b c len o:Nat} {P:Program} {T:TypeId} {U ys:List Nat} {a' b':Value} {cs:List Value} {f:FuncId}
theorem CallK.eq1 {a:Value} {K:Value→World→Prop} (h:a=a') (hk:CallK P f #[a'] w K):CallK P f #[a] w K:=by rw [h];exact hk
theorem CallK.eq2 {a b:Value} {K:Value→World→Prop} (h:a=a') (h2:b=b') (hk:CallK P f #[a',b'] w K):CallK P f #[a,b] w K:=by rw [h,h2];exact hk
theorem CallK.eq3 {a b c c':Value} {K:Value→World→Prop} (h:a=a') (h2:b=b') (h3:c=c') (hk:CallK P f #[a',b',c'] w K):CallK P f #[a,b,c] w K:=by rw [h,h2,h3];exact hk
theorem Rd.cells (h:Rd w p ds):Cells w p 164 (dv ds):=by
 by_cases h0:ds=[]
 · exact .inl (by rw [h0];rfl)
 · have hl:0<ds.length:=List.length_pos_iff.2 h0;obtain ⟨b,o,cs,h1,h2,h3⟩:=h 0 hl;refine .inr ⟨b,o,cs,h1,h2,?_⟩;apply List.ext_getElem?;intro i;rw [List.getElem?_take,zAl];by_cases hi:i<ds.length
   · rw [if_pos hi,List.getElem?_drop];obtain ⟨b',o',cs',k1,k2,k3⟩:=h i hi;rw [h1] at k1;cases k1;obtain ⟨_,rfl⟩:=h2.inj k2;rw [k3,zEa ds i hi]
   · rw [if_neg hi,List.getElem?_eq_none (by rw [zAl];omega)]
theorem Cells.blk (h:Blk w b T cs):Cells w (some ⟨b,0,none⟩) T cs := .inr ⟨b,0,cs,rfl,h,by simp⟩
theorem zKN (a b:List Nat):dv (a++b)=dv a++dv b:=by simp [dv]
theorem dv_rep (n:Nat):List.replicate n (Value.int .u64 0)=dv (List.replicate n 0):=by simp [dv]
theorem Norm.lenlo (h:Norm ds) (h1:18446744073709551616^n≤nat64 ds):n<ds.length:=by
 have h2:=zCE ds h.1;exact (Nat.pow_lt_pow_iff_right (by decide:1<18446744073709551616)).1 (by omega:18446744073709551616^n<18446744073709551616^ds.length)
theorem Norm.lenhi (h:Norm ds) (h1:nat64 ds<18446744073709551616^n):ds.length≤n:=by
 by_cases h0:ds=[]
 · simp [h0]
 · have h2:=h.lo h0;have:=(Nat.pow_lt_pow_iff_right (by decide:1<18446744073709551616)).1 (by omega:18446744073709551616^(ds.length-1)<18446744073709551616^n);omega
def AppR (sz:Nat) (xs:List Nat) (k:Nat) (len:Nat) (v:Value) (w:World):Prop:=∃ ub es c,v = .slice (some ⟨ub,0,none⟩) (len+(if len=0 then es.length+2 else 0)) c∧xs.length+2≤c∧es.length+2≤c∧Norm es∧xs.length≤es.length∧nat64 es=nat64 xs*2^k∧sz≤ub∧Blk w ub 164 (dv (es++[0,0]++List.replicate (c-(es.length+2)) 0))
theorem AppR.ext {sz:Nat} (h:AppR sz xs k len v w) (hx:Ext w w'):AppR sz xs k len v w':=by
 obtain ⟨ub,es,c,h1,h2,h3,h4,h5,h6,h7,h8⟩:=h;exact ⟨ub,es,c,h1,h2,h3,h4,h5,h6,h7,h8.ext hx⟩
def TwoR (v:Value) (w:World):Prop:=∃ b,v = .slice (some ⟨b,0,none⟩) 2 2∧Blk w b 164 (dv [0,0])
theorem TwoR.ext (h:TwoR v w) (hx:Ext w w'):TwoR v w':=by
 obtain ⟨b,h1,h2⟩:=h;exact ⟨b,h1,h2.ext hx⟩
def GuR (hi lo y:Nat) (v:Value):Prop:=∃ q r:Nat,v = .tuple #[.int .u64 (q:Int),.int .u64 (r:Int)]∧q*y+r=hi*18446744073709551616+lo∧r<y∧q<18446744073709551616
def GuQ (hi lo y:Nat) (v:Value):Prop:=∃ q:Nat,v = .int .u64 (q:Int)∧hi*18446744073709551616+lo<(q+1)*y∧q<18446744073709551616
theorem GuR.q {hi lo y:Nat} (h:GuR hi lo y v):∃ a b,v = .tuple #[a,b]∧GuQ hi lo y a:=by
 obtain ⟨q,r,h1,h2,h3,h4⟩:=h;exact ⟨_,_,h1,q,rfl,by rw [Nat.add_mul,Nat.one_mul,← h2];omega,h4⟩
theorem zHz (es:List Nat) (n:Nat):nat64 (es++[0,0]++List.replicate n 0)=nat64 es:=by
 rw [zBI,zBI,zEL];simp [nat64]
theorem Dig.app {a b:List Nat} (ha:Dig a) (hb:Dig b):Dig (a++b):=fun d hd=>by
 rcases List.mem_append.1 hd with h | h
 · exact ha d h
 · exact hb d h
theorem zJq (U:List Nat):∀ (n o:Nat),nat64 (U.drop o)=seg U o n+18446744073709551616^n*nat64 (U.drop (o+n))
 | 0,o=>by simp [seg]
 | n+1,o=>by
  rw [zHQ,Nat.pow_succ,Nat.mul_comm (18446744073709551616^n),Nat.mul_assoc,show o+(n+1)=o+1+n from by omega];by_cases ho:o<U.length
  · rw [zEl ho,zJq U n (o+1),Nat.mul_add];omega
  · have e1:U.drop o=[]:=List.drop_eq_nil_of_le (by omega);have e2:=zJq U n (o+1);rw [List.drop_eq_nil_of_le (by omega:U.length≤o+1)] at e2;rw [e1,zHt (by omega)];simp only [nat64] at e2 ⊢;omega
theorem zNP (h:nat64 (U.drop o)<18446744073709551616^n):seg U o n=nat64 (U.drop o):=by
 have h1:=zJq U n o;have h2:nat64 (U.drop (o+n))=0:=by
  rcases Nat.eq_zero_or_pos (nat64 (U.drop (o+n))) with h0 | h0
  · exact h0
  · have:=Nat.mul_le_mul_left (18446744073709551616^n) h0;omega
 rw [h1,h2,Nat.mul_zero,Nat.add_zero]
theorem zJr (U:List Nat):∀ n,seg U 0 n=nat64 (U.take n)
 | 0=>by simp [seg,nat64]
 | n+1=>by rw [seg,zJr U n,nat64_take_succ',Nat.zero_add]
theorem log2_dig (h:Dig ds) (hl:ds.length≤N) (hL:64*N<L):(nat64 ds).log2<L:=by
 by_cases h0:nat64 ds=0
 · rw [h0];show 0<L;omega
 · rw [Nat.log2_lt h0];have h1:=zCE ds h;rw [pow64] at h1;exact Nat.lt_of_lt_of_le h1 (Nat.pow_le_pow_right (by decide) (by omega))
theorem div_init {vs es:List Nat} {s:Nat} (hx:Norm xs) (hy:Norm ys) (hn:2≤ys.length) (hge:nat64 ys≤nat64 xs) (hs:s<64)
 (h1:ys.getD (ys.length-1) 0*2^s<18446744073709551616) (hv:Norm vs) (hvn:nat64 vs=nat64 ys*2^s) (he:nat64 es=nat64 xs*2^s) :
 vs.length=ys.length∧ys.length≤xs.length∧nat64 vs<18446744073709551616^ys.length∧nat64 ((es++[0,0]++List.replicate c 0).drop (xs.length-ys.length+1))<nat64 vs∧nat64 vs≠0:=by
 have hy0:ys≠[]:=by rintro rfl;simp at hn
 have hlo:=hy.lo hy0;have hxl:ys.length≤xs.length:=by
  rcases Nat.lt_or_ge xs.length ys.length with h | h
  · have:=Norm.len_lt hx.1 hy h;omega
  · exact h
 have hp:1≤2^s:=Nat.pow_pos (by decide);have hylt:nat64 ys*2^s<18446744073709551616^ys.length:=by
  obtain ⟨m,hm⟩:∃ m,ys.length=m+1:=⟨ys.length-1,by omega⟩;have t1:ys.take (m+1)=ys:=List.take_of_length_le (by omega);have t2:=nat64_take_succ' ys m;rw [t1] at t2;have t3:=zCE (ys.take m) (hy.1.take m);rw [List.length_take,Nat.min_eq_left (by omega)] at t3;rw [hm,Nat.add_sub_cancel] at h1;rw [t2,hm,Nat.pow_succ,Nat.add_mul,Nat.mul_assoc];have d1:ys.getD m 0*2^s+2^s≤18446744073709551616:=by
   rw [← Nat.succ_mul];have e:(18446744073709551616:Nat)=2^(64-s)*2^s:=(zLI hs).symm;rw [e] at h1 ⊢;exact Nat.mul_le_mul_right _ (Nat.lt_of_mul_lt_mul_right h1)
  have d2:=Nat.mul_le_mul_left (18446744073709551616^m) d1;have d3:=Nat.mul_lt_mul_of_pos_right t3 (show 0<2^s from hp);rw [Nat.mul_add] at d2;omega
 have hvlo:18446744073709551616^(ys.length-1)≤nat64 vs:=by
  rw [hvn];exact Nat.le_trans hlo (Nat.le_mul_of_pos_right _ hp)
 have l1:=hv.lenlo hvlo;have l2:=hv.lenhi (n:=ys.length) (by rw [hvn];exact hylt);refine ⟨by omega,hxl,by rw [hvn];exact hylt,?_,?_⟩
 · have hd:Dig (es++[0,0]++List.replicate c 0)∨True := .inr trivial;have t1:=zEK (es++[0,0]++List.replicate c 0) (xs.length-ys.length+1);rw [zHz,he] at t1;have hxlt:=zCE xs hx.1;by_cases hlen:xs.length-ys.length+1≤(es++[0,0]++List.replicate c 0).length
   · rw [Nat.min_eq_left hlen] at t1;have k1:nat64 xs<18446744073709551616^(xs.length-ys.length+1)*nat64 ys:=by
      have k2:=Nat.mul_le_mul_left (18446744073709551616^(xs.length-ys.length+1)) hlo;rw [← Nat.pow_add,show xs.length-ys.length+1+(ys.length-1)=xs.length from by omega] at k2;omega
     have k3:nat64 xs*2^s<18446744073709551616^(xs.length-ys.length+1)*nat64 vs:=by
      rw [hvn,← Nat.mul_assoc];exact Nat.mul_lt_mul_of_pos_right k1 hp
     have k4:18446744073709551616^(xs.length-ys.length+1)*nat64 ((es++[0,0]++List.replicate c 0).drop (xs.length-ys.length+1))<18446744073709551616^(xs.length-ys.length+1)*nat64 vs:=by omega
     exact Nat.lt_of_mul_lt_mul_left k4
   · rw [List.drop_eq_nil_of_le (by omega)];have:0<18446744073709551616^(ys.length-1):=Nat.pow_pos (by decide);show 0<_;omega
 · have:0<18446744073709551616^(ys.length-1):=Nat.pow_pos (by decide);omega
theorem zMq {x y:Value} (hxw:IsW w x a) (hyw:IsW w y b) (hfa:Fit a) (hfb:Fit b) (hb0:b≠0):Ret prog 191 #[x,y] w (fun v w'=>∃ q r,v = .tuple #[q,r]∧IsW w' q (a/b)∧IsW w' r (a%b)):=by
 have hxw0:=hxw;have hyw0:=hyw;obtain ⟨pa,xs,ca,rfl,hca,ha,hx,hxv⟩:=hxw0;obtain ⟨pb,ys,cb,rfl,hcb,hb,hy,hyv⟩:=hyw0;subst hxv hyv;have hlx:=hx.fit hfa;have hly:=hy.fit hfb;have E0:Ext w w:=Ext.refl w;refine J0 125 func191 rfl (rj fun K=>ag (ag (rm [0,1,4] K ?_)));refine rJ fun K=>K1 (zJ zX rfl (ag (rm [0,1,4,6] K ?_)));refine zA (rJ fun K=>mv (K1 (j0 E0 hb174 (zMo (hxw.ext E0) (hyw.ext E0) hfa hfb) fun v2_2 w1 E0 hr => ?_)));obtain ⟨cm,rfl,hcm⟩:=hr;refine K8 rfl (rm [0,1,4,6,19] K ?_);refine K0 rfl ?_ ?_<;>intro hc
 · have hlt:nat64 xs<nat64 ys:=by have:=of_decide_eq_true hc;exact hcm.1.1 this
   clear hc;refine rJ fun K=>ag (ag (rm [4,5,6] K ?_));refine zE (zY (zQ ?_));exact ⟨rfl,_,zn rfl rfl rfl,E0,_,_,rfl,IsW.nil (Nat.div_eq_of_lt hlt),by rw [Nat.mod_eq_of_lt hlt];exact hxw.ext E0⟩
 · have hge:nat64 ys≤nat64 xs:=by
    rcases Nat.lt_or_ge (nat64 xs) (nat64 ys) with h | h
    · exact absurd (hcm.1.2 h) (of_decide_eq_false hc)
    · exact h
   clear hc;refine sk (zA (rJ fun K=>K8 rfl (rm [0,1,4,6,22] K ?_)));refine K0 rfl ?_ ?_<;>intro hc
   · have hl1:ys.length=1:=t_beq (b:=1) hc;clear hc;obtain ⟨y0,rfl⟩:∃ y0,ys=[y0]:=List.length_eq_one_iff.1 hl1;obtain ⟨b2,o2,cs2,hpb,hB2,hv2⟩:=(hb.ext E0) 0 (by simp);have hy0:0<y0:=by rw [zDl] at hb0;omega
     have hyl:y0<18446744073709551616:=hy.1 y0 (by simp);refine rJ fun K=>mv (K1 (zO (ix:=0) (b:=b2) (o:=o2) zX (congrArg (fun p=>Value.slice p 1 cb) hpb) rfl (by omega) (by decide) (K1 (zD zAT rfl hB2 (by simpa using hv2) (K1 (j0 E0 hb239 (zLY (hxw.ext E0) hfa hy0 hyl) fun v5_4 w2 E0 hr => ?_))))));obtain ⟨q1,rfl,hq1⟩:=hr;refine mv (xt rfl (xt rfl (ag (ag (rm [4,6,7,8] K ?_)))));refine rJ fun K=>mv (K1 (j1 E0 hq1.ext hb105 (zEv (Nat.lt_trans (Nat.mod_lt _ hy0) hyl)) fun v6_2 w3 E0 hq1 hr => ?_));refine ag (ag (rm [4,5,6] K ?_));refine zE (zY (zQ ?_));exact ⟨rfl,_,zn rfl rfl rfl,E0,_,_,rfl,by rw [zDl];exact hq1,by rw [zDl];exact hr⟩
   · have hl1:ys.length≠1:=f_beq (b:=1) hc;clear hc;have hn2:2≤ys.length:=by
      have:ys.length≠0:=fun e=>hb0 (by rw [List.eq_nil_of_length_eq_zero e];rfl);omega
     obtain ⟨b2,o2,cs2,hpb,hB2,hv2⟩:=(hb.ext E0) (ys.length-1) (by omega);have htop:ys.getD (ys.length-1) 0≠0:=fun e=>hy.2 (by
      have h0:ys.length-1<ys.length:=by omega
      rw [List.getD_eq_getElem?_getD,List.getElem?_eq_getElem h0] at e;rw [List.getLast?_eq_getElem?,List.getElem?_eq_getElem h0];exact congrArg some e)
     refine sk (rJ fun K=>mv (K1 (zAS (b:=1) (ys.length-1) rfl rfl (by omega) (by omega) (K1 (zO (ix:=((ys.length-1:Nat):Int)) (b:=b2) (o:=o2) zX (congrArg (fun p=>Value.slice p ys.length cb) hpb) rfl (by omega) (by omega) ?_)))));refine K1 (zD zAT rfl hB2 (by rw [show o2+((ys.length-1:Nat):Int).toNat*1=o2+(ys.length-1) from by omega];exact hv2) ?_);refine K1 (j0 E0 hb266 (LZ_ok htop (hy.1.getD _) _) fun v7_5 w2 E0 hr => ?_);obtain ⟨hw3,s,rfl,hs64,hs1,hs2⟩:=hr;refine ag (rm [0,1,4,6,9] K ?_)
     refine zA (zAc [([(1,none)],none),([(9,none)],none),([(40,some 1),(41,some 0)],none),([(0,none)],none),([(9,none)],none),([(43,some 1),(44,some 0)],none),([],none),([(45,some 1),(46,some 0)],none),([(0,none)],none),([(48,some 0)],none),([(49,some 0)],none),([(47,some 3),(50,some 0)],none),([(42,some 9)],none),([(51,some 1)],none)] mixed (by kernel_rfl) (by kernel_rfl) (by kernel_rfl) fun K hK=>dvp (fun σ wx hE hk=>zF ⟨Ext.refl _,hk.1⟩) (dvp (fun σ wx hE hk=>zF ⟨Ext.refl _,hk.1⟩) (dcp (UpR w.heap.size ys s) (fun _ _ _ _ hx h=>h.ext hx.toExt) (fun σ wx hE hk=>zC hb267 (CallK.eq2 hk.1 hk.2.1 (CallK.of_ret (up_ok ((hb.ext E0).ext hE) hy.1 (by omega) (by omega)) fun v w2 hX hr=>⟨hX,hr.sz (E0.trans hE).size⟩)) rfl) (dvp (fun σ wx hE hk=>zF ⟨Ext.refl _,hk.1⟩) (dvp (fun σ wx hE hk=>zF ⟨Ext.refl _,hk.1⟩) (dcp (UpR w.heap.size xs s) (fun _ _ _ _ hx h=>h.ext hx.toExt) (fun σ wx hE hk=>zC hb267 (CallK.eq2 hk.1 hk.2.1 (CallK.of_ret (up_ok ((ha.ext E0).ext hE) hx.1 (by omega) (by omega)) fun v w2 hX hr=>⟨hX,hr.sz (E0.trans hE).size⟩)) rfl) (dcp (TwoR) (fun _ _ _ _ hx h=>h.ext hx.toExt) (fun σ wx hE hk=>zR (cs:=dv [0,0]) zDM info164' (by decide) (by decide) (by kernel_rfl) (fun b w' hb hX hB hs=>⟨hX,b,rfl,hB⟩)) ?_)))))));refine dcp (AppR w.heap.size xs s 0) (fun _ _ _ _ hx h=>h.ext hx.toExt) (fun σ wx hE hk=>(by
      obtain ⟨ob,es,O,e1,h1,h2,h3,h4,h5,h6,h7⟩:=hk.1;obtain ⟨b2,e2,h8⟩:=hk.2.1;have h9:xs.length≤es.length:=by
       have t1:xs.length-1<es.length:=h3.lenlo (by rw [h4];exact Nat.le_trans (hx.lo (by rintro rfl;simp [nat64] at hge;omega)) (Nat.le_mul_of_pos_right _ (Nat.pow_pos (by decide))));omega
      have h10:=zAa (es.length+2) (xs.length+s/64+1);refine zAJ zDM zDM zFX rfl (by decide) e1 e2 h2.cells (by rw [zAl];omega) (Cells.blk h8) rfl (by omega) (by omega) (fun w2 rest c hc hX hB hr hs=>⟨hX,_,es,c,by simp,by omega,hc,h3,h9,h4,(E0.trans hE).size,?_⟩);rw [zeroCells_one _ rfl,dv_rep] at hr;rw [hr] at hB;rw [zKN,zKN];exact hB)) ?_
     refine dvp (fun σ wx hE hk=>zF ⟨Ext.refl _,hk.1⟩) (dvp (fun σ wx hE hk=>zJ zX hk.1 ⟨Ext.refl _,rfl⟩) (dvp (u := .int .i64 ((xs.length+1:Nat):Int)) (fun σ wx hE hk => ?_) ?_))
     · exact zy (b:=1) (xs.length+1) hk.1 rfl rfl (by omega) ⟨Ext.refl _,rfl⟩
     refine dcp (AppR w.heap.size xs s (xs.length+1)) (fun _ _ _ _ hx h=>h.ext hx.toExt) (fun σ wx hE hk=>(by
      obtain ⟨ub,es,c,e1,h1,h2,h3,h4,h5,h6,h7⟩:=hk.1;exact zCP zX e1 hk.2.1 (by omega) (by omega) ⟨Ext.refl _,ub,es,c,by simp,h1,h2,h3,h4,h5,h6,h7⟩)) ?_
     refine dcp (UpR w.heap.size ys s) (fun _ _ _ _ hx h=>h.ext hx.toExt) (fun σ wx hE hk=>zp ⟨Ext.refl _,hk.1⟩) (dcp (AppR w.heap.size xs s (xs.length+1)) (fun _ _ _ _ hx h=>h.ext hx.toExt) (fun σ wx hE hk=>zp ⟨Ext.refl _,hk.1⟩) (zAR (hK _ fun wq hE => ?_)));rintro _ rfl _ rfl v42 N42 _ rfl _ rfl v45 N45 v46 N46 v47 N47 _ rfl _ rfl _ rfl v51 N51 v10 N10 v11 N11;refine zU ?_;replace E0:=E0.trans hE;clear hE;refine zN (K5 [0,4,6,9,10,11] ?_);refine zA ?_;obtain ⟨vb,vs,VO,rfl,hv1,hvr,hvd,hvv,hvb,hVB,hVO⟩:=N10;obtain ⟨ub,es,c,rfl,hc1,hc2,hed,hel,hev,hub,hUB⟩:=N11;clear N42 N45 N46 N47 N51;rw [if_neg (by omega),Nat.add_zero];obtain ⟨hvl,hnl,hvlt,htop0,hv0⟩:=div_init (c:=c-(es.length+2)) hx hy hn2 hge hs64 hs1 hvd hvv hev;have hvu:vb≠ub:=fun e=>by
      subst e;have e2:=(hVB.inj hUB).2;have e3:=congrArg List.length e2;rw [zAl,zAl,hVO] at e3;simp at e3;omega
     have hU0d:Dig (es++[0,0]++List.replicate (c-(es.length+2)) 0):=(hed.1.app (by intro d hd;simp at hd;omega)).app (zDg _);have hU0l:(es++[0,0]++List.replicate (c-(es.length+2)) 0).length=c:=by simp;omega
     have hU0v:nat64 (es++[0,0]++List.replicate (c-(es.length+2)) 0)=nat64 xs*2^s:=by rw [zHz,hev]
     generalize (es++[0,0]++List.replicate (c-(es.length+2)) 0)=U0 at *;clear hVB hVO VO hed hel hev es hc2;refine rI fun K=>K1 (zJ zX rfl (mv (K1 (zAS (xs.length-ys.length) rfl rfl (by omega) (by omega) (K1 (zy (b:=1) (xs.length-ys.length+1) rfl rfl rfl (by omega) ?_))))));refine K1 (zAg zDM zFX rfl rfl rfl (by omega) (by omega) (by omega) fun qb w5 hb1 hE hB hs => ?_);have hqb:w.heap.size≤qb:=by rw [hb1];exact E0.size
     have hqu:ub≠qb:=by have:=hUB.lt;omega
     have hqv:vb≠qb:=by obtain ⟨a,ha1,ha2⟩:=hvr.lt (by omega);cases ha1;simp only at ha2;omega
     replace E0:=E0.trans hE;replace hvr:=hvr.ext hE;replace hUB:=hUB.ext hE;clear hE hs hb1;rw [show ((xs.length-ys.length+1:Nat):Int).toNat=xs.length-ys.length+1 from by omega,show (Value.int IntKind.u64 0).cells.toList=[Value.int IntKind.u64 0] from rfl,zCL] at hB;refine ag (rs [4,6,9,10,11] K ?_);refine zA (rJ fun K=>K1 (zJ zX rfl (K1 (zH (v := .int .i64 (((xs.length-ys.length+1:Nat):Int)-1)) rfl rfl (congrArg (fun z=>some (Value.int .i64 z)) (zAG (by omega) (by omega))) (ag (rm [4,6,9,10,11,12] K ?_))))));refine zG ?_
     refine zo (X:=Nat) (fun p ρ w'=>Keep ρ [(4,.slice (some ⟨qb,0,none⟩) (xs.length-ys.length+1) (xs.length-ys.length+1)),(6,.int .i64 (ys.length:Nat)),(9,.int .i64 (s:Nat)),(10,.slice (some ⟨vb,0,none⟩) vs.length (ys.length+s/64+1)),(11,.slice (some ⟨ub,0,none⟩) (xs.length+1) c),(12,.int .i64 (((p:Nat):Int)-1))]∧p≤xs.length-ys.length+1∧∃ U Q,Ext w w'∧Rd w' (some ⟨vb,0,none⟩) vs∧U.length=c∧Dig U∧Blk w' ub 164 (dv U)∧Q.length=xs.length-ys.length+1∧Dig Q∧Blk w' qb 164 (dv Q)∧(∀ t,t<p→U.getD t 0=U0.getD t 0)∧nat64 (Q.drop p)*nat64 vs+seg U p ys.length=nat64 (U0.drop p)∧seg U p ys.length<nat64 vs) (fun p=>p) (xs.length-ys.length+1) ⟨(kp rfl),Nat.le_refl _,U0,List.replicate (xs.length-ys.length+1) 0,E0,hvr,hU0l,hU0d,hUB,by simp,zDg _,hB,fun _ _=>rfl,by rw [List.drop_eq_nil_of_le (by simp),zNP (Nat.lt_trans htop0 hvlt)];simp [nat64],by rw [zNP (Nat.lt_trans htop0 hvlt)];exact htop0⟩ ?_;clear E0 hvr hUB hB;rintro k ρ1 w1 ⟨hk,hkl,U,Q,E0,hvr,hUl,hUd,hUB,hQl,hQd,hQB,hUe,hQV,hsV⟩;refine wpe_k _ hk ?_;clear hk ρ1;refine zA (zA ?_);rcases k with _ | j
     · skip
       refine rI fun K=>K8 rfl (rs [4,6,9,10,11,12,62] K ?_);refine wcf (congrArg Value.bool (decide_eq_false (by omega))) (zi (zAE (zv (zP (zN (zA ?_))))));rw [List.drop_zero,List.drop_zero,hU0v,zJr,hvv] at hQV;rw [zJr,hvv] at hsV;obtain ⟨hdq,hdr⟩:=div_end hQV hsV (by omega);have hfR:(nat64 (U.take ys.length)).log2<17592186044416:=log2_dig (N:=137438953473) (hUd.take _) (by simp;omega) (by decide);refine zAc [([(4,none)],none),([(117,some 0)],none),([(11,none)],none),([(6,none)],none),([(119,some 1),(120,some 0)],none),([(121,some 0)],none),([(9,none)],none),([(122,some 1),(123,some 0)],none),([(118,some 6)],none),([(124,some 1)],none)] mixed (by kernel_rfl) (by kernel_rfl) (by kernel_rfl) fun K hK=>dvp (fun σ wx hE hk=>zF ⟨Ext.refl _,hk.1⟩) (dcp (fun v w'=>IsW w' v (nat64 Q)) (fun _ _ _ _ hx h=>h.ext hx.toExt) (fun σ wx hE hk=>zC hb194 (CallK.eq1 hk.1 (CallK.of_ret (zEC hQl (Nat.le_refl _) (Rd.of_blk (hQB.ext hE)) hQd (by omega)) fun v w2 hX hr=>⟨hX,hr⟩)) rfl) (dvp (fun σ wx hE hk=>zF ⟨Ext.refl _,hk.1⟩) (dvp (fun σ wx hE hk=>zF ⟨Ext.refl _,hk.1⟩) (dvp (u := .slice (some ⟨ub,0,none⟩) ys.length c) (fun σ wx hE hk => ?_) ?_))))
       · exact zCP zX hk.1 hk.2.1 (by omega) (by omega) ⟨Ext.refl _,rfl⟩
       refine dcp (fun v w'=>IsW w' v (nat64 (U.take ys.length))) (fun _ _ _ _ hx h=>h.ext hx.toExt) (fun σ wx hE hk=>zC hb194 (CallK.eq1 hk.1 (CallK.of_ret (zEC (by simp;omega) (by omega) ((Rd.of_blk (hUB.ext hE)).take ys.length) (hUd.take _) (by omega)) fun v w2 hX hr=>⟨hX,hr⟩)) rfl) ?_;refine dvp (fun σ wx hE hk=>zF ⟨Ext.refl _,hk.1⟩) (dcp (fun v w'=>IsW w' v (nat64 (U.take ys.length)/2^s)) (fun _ _ _ _ hx h=>h.ext hx.toExt) (fun σ wx hE hk=>zC hb271 (CallK.eq2 rfl hk.2.1 (CallK.of_ret (down_ok hk.1 hfR (by omega)) fun v w2 hX hr=>⟨hX,hr⟩)) rfl) (dcp (fun v w'=>IsW w' v (nat64 Q)) (fun _ _ _ _ hx h=>h.ext hx.toExt) (fun σ wx hE hk=>zp ⟨Ext.refl _,hk.1⟩) (dcp (fun v w'=>IsW w' v (nat64 (U.take ys.length)/2^s)) (fun _ _ _ _ hx h=>h.ext hx.toExt) (fun σ wx hE hk=>zp ⟨Ext.refl _,hk.1⟩) (zAR (hK _ fun wq hE => ?_)))));rintro _ rfl v118 N118 _ rfl _ rfl _ rfl v122 N122 _ rfl v124 N124 v4 N4 v5 N5;refine zU ?_;replace E0:=E0.trans hE;replace hUB:=hUB.ext hE;replace hQB:=hQB.ext hE;replace hvr:=hvr.ext hE;clear hE;refine zN (K5 [4,5,6,9,10,11,12] ?_);refine zE (zQ ?_);exact ⟨rfl,_,zn rfl rfl rfl,E0,_,_,rfl,by rw [← hdq];exact N4,by rw [← hdr];exact N5⟩
     · have hw1:((j+1:Nat):Int)-1=(j:Int):=by omega
       have hw2:IntKind.i64.wrap ((j:Nat)-1)=(j:Int)-1:=zAG (by omega) (by omega);rw [hw1];have hjn:j+ys.length<c:=by omega
       have hix1:(0:Nat)+((j+ys.length:Nat):Int).toNat*1=j+ys.length:=by omega
       have hix2:(0:Nat)+((j+ys.length-1:Nat):Int).toNat*1=j+ys.length-1:=by omega
       have hixq:(0:Nat)+((j:Nat):Int).toNat*1=j:=by omega
       have hixv:((ys.length-1:Nat):Int).toNat*1=ys.length-1:=by omega
       obtain ⟨vb',vo,vcs,hpv,hVB,hVv⟩:=hvr (ys.length-1) (by omega);cases hpv;have hXV:seg U j (ys.length+1)<(18446744073709551615+1)*nat64 vs:=by
        have k1:seg U (j+1) ys.length+1≤nat64 vs:=hsV;have k2:=Nat.mul_le_mul_left 18446744073709551616 k1;have k3:=hUd.getD j;rw [zHQ];omega
       have hUlo:=zJF hUd j (ys.length-1);have hvt:vs.getD (ys.length-1) 0*18446744073709551616^(ys.length-1)≤nat64 vs:=by
        have k1:=nat64_take_succ' vs (ys.length-1);rw [List.take_of_length_le (by omega)] at k1;rw [k1,Nat.mul_comm];omega
       refine rI fun K=>K8 rfl (rs [4,6,9,10,11,12,62] K ?_);refine wct (congrArg Value.bool (decide_eq_true (by omega))) (sk (zA (zG (rj fun K=>ag (rm [4,6,9,10,11,12,13] K ?_)))));refine zCJ (fun ρ w'=>∃ g:Nat,Keep ρ [(4,.slice (some ⟨qb,0,none⟩) (xs.length-ys.length+1) (xs.length-ys.length+1)),(6,.int .i64 (ys.length:Nat)),(9,.int .i64 (s:Nat)),(10,.slice (some ⟨vb,0,none⟩) vs.length (ys.length+s/64+1)),(11,.slice (some ⟨ub,0,none⟩) (xs.length+1) c),(12,.int .i64 (j:Nat)),(13,.int .u64 (g:Nat))]∧g<18446744073709551616∧seg U j (ys.length+1)<(g+1)*nat64 vs∧∃ U',Ext w w'∧Rd w' (some ⟨vb,0,none⟩) vs∧U'.length=c∧Dig U'∧Blk w' ub 164 (dv U')∧Q.length=xs.length-ys.length+1∧Dig Q∧Blk w' qb 164 (dv Q)∧(∀ t,t<j→U'.getD t 0=U.getD t 0)∧seg U' j (ys.length+1)=seg U j (ys.length+1)) ?_ ?_
       · refine zA (zEw mixed rfl rfl fun K hK=>qr rfl (fun wx hE=>zF ⟨rfl,Ext.refl _⟩) (qr rfl (fun wx hE=>zF ⟨rfl,Ext.refl _⟩) (qr rfl (fun wx hE=>zF ⟨rfl,Ext.refl _⟩) (qr rfl (fun wx hE=>zy (j+ys.length) rfl rfl rfl (by omega) ⟨rfl,Ext.refl _⟩) (qr rfl (fun wx hE=>zO (b:=ub) (o:=0) (ix:=((j+ys.length:Nat):Int)) zX rfl rfl (by omega) (by omega) ⟨rfl,Ext.refl _⟩) ?_)))));refine qr rfl (fun wx hE=>zD zAT rfl (hUB.ext hE) (by rw [hix1];exact zEa U (j+ys.length) (by omega)) ⟨rfl,Ext.refl _⟩) ?_;refine qr rfl (fun wx hE=>zF ⟨rfl,Ext.refl _⟩) (qr rfl (fun wx hE=>zF ⟨rfl,Ext.refl _⟩) (qr rfl (fun wx hE=>zAS (b:=1) (ys.length-1) rfl rfl (by omega) (by omega) ⟨rfl,Ext.refl _⟩) (qr rfl (fun wx hE=>zO (b:=vb) (o:=0) (ix:=((ys.length-1:Nat):Int)) zX rfl rfl (by omega) (by omega) ⟨rfl,Ext.refl _⟩) ?_)));refine qr rfl (fun wx hE=>zD zAT rfl (hVB.ext hE) (by rw [hixv];exact hVv) ⟨rfl,Ext.refl _⟩) ?_;refine qr rfl (fun wx hE=>zH rfl rfl rfl ⟨rfl,Ext.refl _⟩) (hK _ fun wq hE => ?_);replace E0:=E0.trans hE;replace hUB:=hUB.ext hE;replace hQB:=hQB.ext hE;replace hvr:=hvr.ext hE;replace hVB:=hVB.ext hE;clear hE;refine zN (K5 [4,6,9,10,11,12,13,76] ?_);refine K0 rfl ?_ ?_<;>intro hc
         · have hcase:U.getD (j+ys.length) 0<vs.getD (ys.length-1) 0:=t_lt hc;clear hc;refine zAc [([(11,none)],none),([(12,none)],none),([(6,none)],none),([(79,some 1),(80,some 0)],none),([(78,some 3),(81,some 0)],none),([(82,some 0)],none),([(11,none)],none),([(12,none)],none),([(6,none)],none),([(85,some 1),(86,some 0)],none),([(87,some 0)],none),([(84,some 4),(88,some 0)],none),([(89,some 0)],none),([(10,none)],none),([(6,none)],none),([(92,some 0)],none),([(91,some 2),(93,some 0)],none),([(94,some 0)],none),([(83,some 12),(90,some 5),(95,some 0)],none),([(96,some 0)],none),([(77,some 0)],none),([(77,some 1)],none),([(97,some 1)],none)] mixed (by kernel_rfl) (by kernel_rfl) (by kernel_rfl) fun K hK=>dvp (fun σ wx hE hk=>zF ⟨Ext.refl _,hk.1⟩) (dvp (fun σ wx hE hk=>zF ⟨Ext.refl _,hk.1⟩) (dvp (fun σ wx hE hk=>zF ⟨Ext.refl _,hk.1⟩) (dvp (u := .int .i64 ((j+ys.length:Nat):Int)) (fun σ wx hE hk => ?_) ?_)))
           · exact zy (j+ys.length) hk.1 hk.2.1 rfl (by omega) ⟨Ext.refl _,rfl⟩
           refine dvp (u := .pointer (some ⟨ub,j+ys.length,none⟩)) (fun σ wx hE hk => ?_) ?_
           · exact zO zX hk.1 hk.2.1 (by omega) (by omega) ⟨Ext.refl _,by rw [hix1]⟩
           refine dvp (u := .int .u64 (U.getD (j+ys.length) 0:Nat)) (fun σ wx hE hk => ?_) ?_
           · exact zD zAT hk.1 (hUB.ext hE) (zEa U (j+ys.length) (by omega)) ⟨Ext.refl _,rfl⟩
           refine dvp (fun σ wx hE hk=>zF ⟨Ext.refl _,hk.1⟩) (dvp (fun σ wx hE hk=>zF ⟨Ext.refl _,hk.1⟩) (dvp (fun σ wx hE hk=>zF ⟨Ext.refl _,hk.1⟩) (dvp (u := .int .i64 ((j+ys.length:Nat):Int)) (fun σ wx hE hk => ?_) ?_)))
           · exact zy (j+ys.length) hk.1 hk.2.1 rfl (by omega) ⟨Ext.refl _,rfl⟩
           refine dvp (u := .int .i64 ((j+ys.length-1:Nat):Int)) (fun σ wx hE hk => ?_) ?_
           · exact zAS (b:=1) (j+ys.length-1) hk.1 rfl (by omega) (by omega) ⟨Ext.refl _,rfl⟩
           refine dvp (u := .pointer (some ⟨ub,j+ys.length-1,none⟩)) (fun σ wx hE hk => ?_) ?_
           · exact zO zX hk.1 hk.2.1 (by omega) (by omega) ⟨Ext.refl _,by rw [hix2]⟩
           refine dvp (u := .int .u64 (U.getD (j+ys.length-1) 0:Nat)) (fun σ wx hE hk => ?_) ?_
           · exact zD zAT hk.1 (hUB.ext hE) (zEa U (j+ys.length-1) (by omega)) ⟨Ext.refl _,rfl⟩
           refine dvp (fun σ wx hE hk=>zF ⟨Ext.refl _,hk.1⟩) (dvp (fun σ wx hE hk=>zF ⟨Ext.refl _,hk.1⟩) (dvp (u := .int .i64 ((ys.length-1:Nat):Int)) (fun σ wx hE hk => ?_) ?_))
           · exact zAS (b:=1) (ys.length-1) hk.1 rfl (by omega) (by omega) ⟨Ext.refl _,rfl⟩
           refine dvp (u := .pointer (some ⟨vb,ys.length-1,none⟩)) (fun σ wx hE hk => ?_) ?_
           · exact zO zX hk.1 hk.2.1 (by omega) (by omega) ⟨Ext.refl _,by rw [hixv,Nat.zero_add]⟩
           refine dvp (u := .int .u64 (vs.getD (ys.length-1) 0:Nat)) (fun σ wx hE hk => ?_) ?_
           · exact zD zAT hk.1 (hVB.ext hE) (by simpa using hVv) ⟨Ext.refl _,rfl⟩
           refine dcp (fun v _=>GuR (U.getD (j+ys.length) 0) (U.getD (j+ys.length-1) 0) (vs.getD (ys.length-1) 0) v) (fun _ _ _ _ _ h=>h) (fun σ wx hE hk=>zC hb268 (CallK.eq3 hk.1 hk.2.1 hk.2.2.1 (CallK.of_ret (zLN hcase (hUd.getD _) (hvd.1.getD _) _) fun v w2 hX hr=>⟨hX,hr⟩)) rfl) (dcp (fun v _=>GuR (U.getD (j+ys.length) 0) (U.getD (j+ys.length-1) 0) (vs.getD (ys.length-1) 0) v) (fun _ _ _ _ _ h=>h) (fun σ wx hE hk=>zF ⟨Ext.refl _,hk.1⟩) ?_);refine dcp (fun v _=>GuQ (U.getD (j+ys.length) 0) (U.getD (j+ys.length-1) 0) (vs.getD (ys.length-1) 0) v) (fun _ _ _ _ _ h=>h) (fun σ wx hE hk=>(by obtain ⟨a,b,e,hq⟩:=GuR.q hk.1;exact zBK e rfl ⟨Ext.refl _,hq⟩)) ?_;refine dcp (fun _ _=>True) (fun _ _ _ _ _ h=>h) (fun σ wx hE hk=>(by obtain ⟨a,b,e,hq⟩:=GuR.q hk.1;exact zBK e rfl ⟨Ext.refl _,trivial⟩)) ?_;refine dcp (fun v _=>GuQ (U.getD (j+ys.length) 0) (U.getD (j+ys.length-1) 0) (vs.getD (ys.length-1) 0) v) (fun _ _ _ _ _ h=>h) (fun σ wx hE hk=>zp ⟨Ext.refl _,hk.1⟩) (zAR (hK _ fun wq hE => ?_));rintro _ rfl _ rfl _ rfl _ rfl _ rfl _ rfl _ rfl _ rfl _ rfl _ rfl _ rfl _ rfl _ rfl _ rfl _ rfl _ rfl _ rfl _ rfl v96 N96 v77 N77 v97 N97 v98 N98 v13 N13;refine zU ?_;replace E0:=E0.trans hE;replace hUB:=hUB.ext hE;replace hQB:=hQB.ext hE;replace hvr:=hvr.ext hE;replace hVB:=hVB.ext hE;clear hE;refine zV ?_
           obtain ⟨g,rfl,hg1,hg2⟩:=N13;exact ⟨rfl,g,(kp rfl),hg2,guess_le (guess_top (by omega)) hUlo hvt hg1,U,E0,hvr,hUl,hUd,hUB,hQl,hQd,hQB,fun _ _=>rfl,rfl⟩
         · clear hc;exact zz (zV ⟨rfl,18446744073709551615,(kp rfl),by decide,hXV,U,E0,hvr,hUl,hUd,hUB,hQl,hQd,hQB,fun _ _=>rfl,rfl⟩)
       · clear E0 hvr hUB hQB hVB hVv;rintro ρ2 w2 ⟨g0,hk,hgl0,hXg0,U0',hall0⟩;refine wpe_k _ hk ?_;clear hk ρ2;refine zA (zG (zo (X:=Nat) (fun g ρ w'=>Keep ρ [(4,.slice (some ⟨qb,0,none⟩) (xs.length-ys.length+1) (xs.length-ys.length+1)),(6,.int .i64 (ys.length:Nat)),(9,.int .i64 (s:Nat)),(10,.slice (some ⟨vb,0,none⟩) vs.length (ys.length+s/64+1)),(11,.slice (some ⟨ub,0,none⟩) (xs.length+1) c),(12,.int .i64 (j:Nat)),(13,.int .u64 (g:Nat))]∧g<18446744073709551616∧seg U j (ys.length+1)<(g+1)*nat64 vs∧∃ U',Ext w w'∧Rd w' (some ⟨vb,0,none⟩) vs∧U'.length=c∧Dig U'∧Blk w' ub 164 (dv U')∧Q.length=xs.length-ys.length+1∧Dig Q∧Blk w' qb 164 (dv Q)∧(∀ t,t<j→U'.getD t 0=U.getD t 0)∧seg U' j (ys.length+1)=seg U j (ys.length+1)) (fun g=>g) g0 ⟨(kp rfl),hgl0,hXg0,U0',hall0⟩ ?_));clear hgl0 hXg0 hall0 U0' g0;rintro g ρ3 w3 ⟨hk,hgl,hXg,U1,E0,hvr,hU1l,hU1d,hU1B,_,_,hQB,hU1t,hU1s⟩;refine wpe_k _ hk ?_;clear hk ρ3;refine zA (rJ fun K=>mv (K1 (zEp zX rfl rfl (by omega) (by omega) ?_)));rw [show ((j:Nat):Int).toNat=j from by omega,if_neg (by omega),show Option.map (fun a=>Addr.add a (j*1)) (some (⟨ub,0,none⟩:Addr))=some ⟨ub,j,none⟩ from by simp [zAk]];refine mv (mv ?_)
         refine K1 (zC hb269 ((take_ok hU1B hU1d hvr hvd.1 (fun a ha _=>by cases ha;exact hvu) hgl (by omega) (by omega) (by omega)).mono fun v2 w4 hr => ?_) rfl);obtain ⟨U2,cc,rfl,hcc,hW,hU2B,hU2l,hU2d,hU2t,hU2s⟩:=hr;replace E0:=E0.upd hW hub;replace hvr:=hvr.upd' hW (fun a ha _=>by cases ha;exact hvu);replace hQB:=hQB.upd hW (Ne.symm hqu);clear hW;rw [hvl] at hU2t hU2s;rw [hU1l] at hU2l;rw [hU1s] at hU2s;obtain ⟨htk0,htk1⟩:=take_res hU2s hcc (zJF hUd j (ys.length+1)) (zJF hU2d j (ys.length+1)) hXg (Nat.le_trans (Nat.le_of_lt hvlt) (Nat.pow_le_pow_right (by decide) (by omega)));refine rm [4,6,9,10,11,12,13,104] K ?_;refine K0 rfl ?_ ?_<;>intro hc
         · obtain rfl:cc=1:=by have:=bne_iff_ne.1 hc;omega
           clear hc;obtain ⟨hXg',hg1⟩:=htk1 rfl;refine sk (zG (rJ fun K=>mv (K1 (zEp zX rfl rfl (by omega) (by omega) ?_))));rw [show ((j:Nat):Int).toNat=j from by omega,if_neg (by omega),show Option.map (fun a=>Addr.add a (j*1)) (some (⟨ub,0,none⟩:Addr))=some ⟨ub,j,none⟩ from by simp [zAk]];refine mv (mv ?_);refine K1 (zC hb270 ((give_ok hU2B hU2d hvr hvd.1 (fun a ha _=>by cases ha;exact hvu) hgl (by omega) (by omega) (by omega)).mono fun v3 w5 hr => ?_) rfl);obtain ⟨U3,c3,hc3,hW,hU3B,hU3l,hU3d,hU3t,hU3s⟩:=hr;replace E0:=E0.upd hW hub;replace hvr:=hvr.upd' hW (fun a ha _=>by cases ha;exact hvu);replace hQB:=hQB.upd hW (Ne.symm hqu);clear hW;rw [hvl] at hU3t hU3s;have hS3:=give_res hU2s hU3s hc3 (zJF hUd j (ys.length+1)) (zJF hU3d j (ys.length+1));refine rm [4,6,9,10,11,12,13] K ?_;refine rI fun K=>K1 (zCk (b:=1) (g-1) rfl rfl (by omega) (by omega) (ag (rl K (zT (zV ?_)))));exact ⟨rfl,g-1,⟨(kp rfl),by omega,by rw [show g-1+1=g from by omega];exact hXg',U3,E0,hvr,hU3l.trans hU2l,hU3d,hU3B,hQl,hQd,hQB,fun t ht=>(hU3t t (Or.inl ht)).trans ((hU2t t (Or.inl ht)).trans (hU1t t ht)),hS3⟩,by omega⟩
         · obtain rfl:cc=0:=by have:=bne_eq_false_iff_eq.1 hc;omega
           clear hc;obtain ⟨hS,hfin⟩:=htk0 rfl;refine zi (zAE (zv (zP (zN (rI fun K=>mv (mv ?_))))));have hUl':=hU2l;have hUd':=hU2d;have hUt:∀ t,t<j→U2.getD t 0=U.getD t 0:=fun t ht=>(hU2t t (Or.inl ht)).trans (hU1t t ht);generalize U2=U' at *;have hUB':=hU2B;refine K1 (zO (b:=qb) (o:=0) (ix:=((j:Nat):Int)) zX rfl rfl (by omega) (by omega) ?_);refine K1 (zZ zCU rfl hQB rfl (by rw [hixq,zAl];omega) (by decide) rfl fun w6 hW hN => ?_);replace E0:=E0.upd hW hqb;replace hvr:=hvr.upd' hW (fun a ha _=>by cases ha;exact hqv);replace hUB':=hUB'.upd hW hqu;clear hW;refine rl K (zT (zN (K5 [4,6,9,10,11,12,13] ?_)));refine rI fun K=>K1 (zH (v := .int .i64 ((j:Nat)-1)) rfl rfl (congrArg (fun z=>some (Value.int .i64 z)) hw2) (ag (rl K (zV (⟨rfl,j,⟨(kp rfl),by omega,U',Q.set j g,E0,hvr,hUl',hUd',hUB',by simp [hQl],hQd.set _ hgl,zBh hN hixq,fun t ht=>(hUt t ht).trans (hUe t (by omega)),?_,?_⟩,by omega⟩)))))
           · rw [(zNQ hUd' hfin (Nat.le_of_lt hvlt)).2];exact div_step (X:=seg U j (ys.length+1)) (zEl (by omega)) hQV (by rw [zHQ,hUe j (by omega)]) hS (by rw [zHm (by omega)])
           · rw [(zNQ hUd' hfin (Nat.le_of_lt hvlt)).2];exact hfin
theorem zKW {m:Nat} (h:m≤n):m.log2≤n.log2:=by
 by_cases h0:m=0
 · subst h0;exact Nat.zero_le _
 · have h1:=Nat.log2_self_le h0;rcases Nat.lt_or_ge n.log2 m.log2 with h2 | h2
   · have h3:=(Nat.log2_lt (by omega:n≠0)).1 h2;omega
   · exact h2
theorem Fit.le {m:Nat} (h:Fit n) (hm:m≤n):Fit m:=Nat.lt_of_le_of_lt (zKW hm) h
theorem zJh (a b:Nat):Nat.gcd b (a%b)=Nat.gcd a b:=by
 rw [Nat.gcd_comm a b,Nat.gcd_rec b a,Nat.gcd_comm]
theorem zIk {x y:Value} (hx:IsW w x a) (hy:IsW w y b) (hfa:Fit a) (hfb:Fit b):Ret prog 155 #[x,y] w (fun v w'=>IsW w' v (Nat.gcd a b)):=by
 have E0:Ext w w:=Ext.refl w;refine J0 44 func155 rfl (rj fun K=>ag (rm [0,1] K ?_));refine zA (zG (zo (X:=Nat×Nat) (fun p ρ w'=>∃ vx vy,Keep ρ [(0,vx),(1,vy)]∧Ext w w'∧IsW w' vx p.1∧IsW w' vy p.2∧Fit p.1∧Fit p.2∧Nat.gcd p.1 p.2=Nat.gcd a b) (fun p=>p.2) (a,b) ⟨x,y,(kp rfl),E0,hx.ext E0,hy.ext E0,hfa,hfb,rfl⟩ ?_));clear E0 hx hy;rintro ⟨A,B⟩ ρ1 w1 ⟨vx,vy,hk,E0,hx,hy,hA,hB,hg⟩;simp only at hx hy hA hB hg;have hy0:=hy;obtain ⟨pb,ys,cb,rfl,hcb,hb,hyn,hyv⟩:=hy0;have hyl:=hyn.fit (hyv ▸ hB);refine wpe_k _ hk ?_;clear hk ρ1;refine zA (rJ fun K=>K1 (zJ zX rfl (K8 rfl (rm [0,1,12] K ?_))));refine K0 rfl ?_ ?_<;>intro hc
 · have hl1:1<ys.length:=by have:=of_decide_eq_true hc;omega
   clear hc;have hb0:B≠0:=fun e=>by rw [e] at hyv;have:=hyn.zero.1 hyv;subst this;simp at hl1
   refine sk (zG (rJ fun K=>mv (K1 (j2 E0 hx.ext hy.ext hb191 (zMq hx hy hA hB hb0) fun v2_2 w1 E0 hx hy hr => ?_))));obtain ⟨q1,r1,rfl,hr1,hr2⟩:=hr;refine mv (xt rfl (xt rfl (ag (ag (rm [1,6] K ?_)))));exact rI fun K=>mv (ag (ag (rl K (zT (zV (⟨rfl,(B,A%B),⟨_,_,(kp rfl),E0,hy,hr2,hB,hB.le (Nat.le_of_lt (Nat.mod_lt _ (Nat.pos_of_ne_zero hb0))),(zJh A B).trans hg⟩,Nat.mod_lt _ (Nat.pos_of_ne_zero hb0)⟩))))))
 · have hl1:ys.length≤1:=by have:=of_decide_eq_false hc;omega
   clear hc;refine zi (zAE (zv (zP (zN (zA (rJ fun K=>K1 (zJ zX rfl (K8 rfl (rm [0,1,23] K ?_)))))))));refine K0 rfl ?_ ?_<;>intro hc
   · have hl0:ys.length=0:=by have:=eq_of_beq hc;omega
     clear hc;obtain rfl:=List.eq_nil_of_length_eq_zero hl0;obtain rfl:B=0:=by rw [← hyv];rfl
     rw [Nat.gcd_zero_right] at hg;refine rJ fun K=>ag (rm [1,4] K ?_);exact zE (zY (en rfl E0 (hg ▸ hx)))
   · have hl0:ys.length≠0:=fun e=>by rw [e] at hc;cases hc
     clear hc;obtain ⟨y0,rfl⟩:∃ y0,ys=[y0]:=List.length_eq_one_iff.1 (by omega);obtain ⟨b2,o2,cs2,hpb,hB2,hv2⟩:=hb 0 (by simp);rw [zDl] at hyv;subst hyv;have hy1:y0<18446744073709551616:=hyn.1 y0 (by simp);have hy2:0<y0:=by
      rcases Nat.eq_zero_or_pos y0 with e | e
      · subst e;exact absurd rfl hyn.2
      · exact e
     refine sk (rJ fun K=>mv (K1 (zO (ix:=0) (b:=b2) (o:=o2) zX (congrArg (fun p=>Value.slice p 1 cb) hpb) rfl (by omega) (by decide) (K1 (zD zAT rfl hB2 (by simpa using hv2) (K1 (j3 E0 hx.ext hy.ext hB2.ext hb239 (zLY hx hA hy2 hy1) fun v6_4 w1 E0 hx hy hB2 hr => ?_)))))));obtain ⟨q1,rfl,hq1⟩:=hr;refine mv (xt rfl (xt rfl (ag (ag (rm [1,8] K ?_)))));refine zA ?_;clear hx hy hq1;refine rI fun K=>K1 (zO (ix:=0) (b:=b2) (o:=o2) zX (congrArg (fun p=>Value.slice p 1 cb) hpb) rfl (by omega) (by decide) (K1 (zD zAT rfl hB2 (by simpa using hv2) (ag (rs [1,8,9] K ?_)))));refine zA (zG (zo (X:=Nat×Nat) (fun p ρ w'=>Keep ρ [(8,.int .u64 (p.1:Nat)),(9,.int .u64 (p.2:Nat))]∧Ext w w'∧p.1<18446744073709551616∧p.2<18446744073709551616∧Nat.gcd p.2 p.1=Nat.gcd a b) (fun p=>p.1) (A%y0,y0) ⟨(kp rfl),E0,Nat.lt_trans (Nat.mod_lt _ hy2) hy1,hy1,(zJh A y0).trans hg⟩ ?_));clear E0 hB2 hb hg hy1 hy2;rintro ⟨u,v⟩ ρ2 w2 ⟨hk,E0,hu,hv,hg⟩;simp only at hu hv hg;refine wpe_k _ hk ?_;clear hk ρ2;refine zA (rJ fun K=>K8 rfl (rm [8,9,37] K ?_));refine K0 rfl ?_ ?_<;>intro hc
     · have hu0:u≠0:=t_bne (b:=0) hc;clear hc;exact sk (zG (rI fun K=>mv (K1 (zKp (v%u) rfl rfl hu0 rfl (mv (ag (ag (rl K (zT (zV (⟨rfl,(v%u,u),⟨(kp rfl),E0,Nat.lt_trans (Nat.mod_lt _ (by omega)) hu,hu,(zJh v u).trans hg⟩,Nat.mod_lt _ (by omega)⟩)))))))))))
     · obtain rfl:u=0:=f_bne (b:=0) hc;clear hc;rw [Nat.gcd_zero_right] at hg;refine zi (zAE (zv (zP (zN (rJ fun K=>K1 (j0 E0 hb105 (zEv hv) fun v10_1 w2 E0 hr => ?_))))));refine ag (rm [4,8,9] K ?_);exact zE (en rfl E0 (hg ▸ hr))
end Go.Proofs.YtjiendlfobjanaaGreatDoor
namespace Go.Proofs.YtjiendlfobjanaaGreatDoor
open Go Go.RowKit Go.Proofs Tryz
variable {P:Program} {T t' ty:TypeId} {a b i n:Nat} {af:Array Edge} {cs:List Value} {g:Option (Nat×Bool)} {pos:String} {q:Rat} {r:Option Nat} {u v:Value} {w w' w0:World} {x y:Operand} {α:Type} {σ:Operand→Value}
theorem IsW.of_eq (h:v=u) (hx:IsW w u n):IsW w v n:=h ▸ hx
theorem IsNum.of_eq (h:v=u) (hx:IsNum w u q):IsNum w v q:=h ▸ hx
theorem nin1 (h:a≠b):a ∉ [b]:=by simp [h]
theorem noW1 (hB:Blk w b T cs) (hT:T≠164):NoW [b] w:=fun c hc=>by
 rw [List.mem_singleton.1 hc];exact ⟨T,cs,hB,hT⟩
theorem all1 {p:α→Prop} {a:α} (h:p a):∀ s∈[a],p s:=fun s hs=>by rw [List.mem_singleton.1 hs];exact h
def Cell3 (b:Nat) (w:World):Prop:=∃ cs,Blk w b 37 cs∧cs.length=3
def NumAt (b:Nat) (q:Rat) (w:World):Prop:=∃ cs,Blk w b 37 cs∧cs.length=3∧IsNum w (.agg cs.toArray) q
theorem Cell3.of (hB:Blk w b 37 cs) (hl:cs.length=3):Cell3 b w:=⟨cs,hB,hl⟩
theorem NumAt.ext (h:NumAt b q w) (hx:Ext w w'):NumAt b q w':=by
 obtain ⟨cs,h1,h2,h3⟩:=h;exact ⟨cs,h1.ext hx,h2,h3.ext hx⟩
theorem zFY (hB:Blk w0 b 37 cs) (hl:cs.length=3) :
 (⟨i,b,Cell3 b,NumAt b q⟩:StoreSpec).blk<w0.heap.size∧(⟨i,b,Cell3 b,NumAt b q⟩:StoreSpec).pre w0∧∀ w w',ExtS [b] w0 w→ExtS [b] w w'→w'.heap[(⟨i,b,Cell3 b,NumAt b q⟩:StoreSpec).blk]? = w.heap[(⟨i,b,Cell3 b,NumAt b q⟩:StoreSpec).blk]? →
  ((⟨i,b,Cell3 b,NumAt b q⟩:StoreSpec).pre w→(⟨i,b,Cell3 b,NumAt b q⟩:StoreSpec).pre w')∧((⟨i,b,Cell3 b,NumAt b q⟩:StoreSpec).post w→(⟨i,b,Cell3 b,NumAt b q⟩:StoreSpec).post w'):=by
 refine ⟨hB.lt,⟨cs,hB,hl⟩,fun w w' _ hx he=>⟨?_,?_⟩⟩
 · rintro ⟨cs',h1,h2⟩;exact ⟨cs',by show w'.heap[b]? = _;rw [he];exact h1,h2⟩
 · rintro ⟨cs',h1,h2,h3⟩;exact ⟨cs',by show w'.heap[b]? = _;rw [he];exact h1,h2,h3.extS hx (noW1 h1 (by decide))⟩
theorem zAx {d:Option Tmp} (hx:σ x = .pointer (some ⟨b,0,none⟩)) (hy:IsNum w (σ y) q) (hc:Cell3 b w) :
 Runs prog r ⟨d,.store 37 x y,ty,pos,af,g⟩ σ w (fun _ w'=>Upd b w w'∧NumAt b q w'):=by
 obtain ⟨cs,hB,hl⟩:=hc;have hy0:=hy;obtain ⟨n,dd,he,hn,hd⟩:=hy;obtain ⟨p1,ds1,c1,rfl,-⟩:=hn;obtain ⟨p2,ds2,c2,rfl,-⟩:=hd;refine zZ zGN hx hB (by rw [he];rfl) (by omega) (by decide) (by rw [he];rfl) fun w' hU hN=>⟨hU,?_⟩;rw [he] at hN hy0
 match cs,hl with
 | [a,b',c],_=>exact ⟨_,hN,rfl,hy0.upd hU hB (by decide)⟩
theorem zI {K:Value→World→Prop} {d:Option Tmp} (hx:σ x = .pointer (some ⟨b,0,none⟩)) (hy:IsNum w (σ y) q) (hc:Cell3 b w)
 (hk:∀ v w',Upd b w w'→NumAt b q w'→K v w'):Runs prog r ⟨d,.store 37 x y,ty,pos,af,g⟩ σ w K :=
 (zAx hx hy hc).mono fun v w' h=>hk v w' h.1 h.2
theorem run_equalIn_bool {t:TypeId} (hT:P.underlying t=some .bool) (d:Nat) (a b:Bool) (w:World):(Op.equalIn (d+1) t (.bool a) (.bool b)).run P w = .ok (a==b) w:=by
 unfold Op.equalIn;simp [run_underlying hT]
theorem zFQ {t:TypeId} (hT:P.underlying t=some .bool) (a b:Bool) (w:World):(Op.equal t (.bool a) (.bool b)).run P w = .ok (a==b) w:=run_equalIn_bool hT 9999 a b w
theorem zEb (op:BinOp) (t:TypeId) (x y:Operand) (a b:Bool) (w:World):(eqGuard op t x y (.bool a) (.bool b)).run P w = .ok () w:=by
 unfold eqGuard;cases op<;>simp
theorem zKj {K:Value→World→Prop} {d:Option Tmp} {t:TypeId} {a b:Bool} (hT:P.underlying t=some .bool) (hx:σ x = .bool a) (hy:σ y = .bool b) (hk:K (.bool (a != b)) w):Runs P r ⟨d,.binOp .neq t x y t',ty,pos,af,g⟩ σ w K:=by
 refine zl (fun _ e=>by cases e) ?_ hk;simp [execOp,binOp,hx,hy,zEb,zFQ hT]
 try (cases a<;>cases b<;>rfl)
theorem runs_beql {K:Value→World→Prop} {d:Option Tmp} {t:TypeId} {a b:Bool} (hT:P.underlying t=some .bool) (hx:σ x = .bool a) (hy:σ y = .bool b) (hk:K (.bool (a==b)) w):Runs P r ⟨d,.binOp .eql t x y t',ty,pos,af,g⟩ σ w K:=by
 refine zl (fun _ e=>by cases e) ?_ hk;simp [execOp,binOp,hx,hy,zEb,zFQ hT]
theorem zNZ:prog.underlying 4=some .bool:=by kernel_rfl
theorem IsNum.zero:IsNum w (.agg #[.bool false,.slice none 0 0,.slice none 0 0]) 0:=⟨_,_,rfl,IsW.nil rfl,IsW.nil rfl⟩
end Go.Proofs.YtjiendlfobjanaaGreatDoor
