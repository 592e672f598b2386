/-
  A part of the proof: CardCa.
-/
import Derived.Test.YtjiendlfobjanaaGreatDoorH06
import Derived.Carry
import Derived.Deep.DeepHandedRow
import Derived.Deep.Slices
import Derived.LaidMore
import Derived.Lay
import Derived.Lib.LaidTab
import Derived.OpenShut
import Derived.ProofKit
import Derived.SevenTiedAt
import Derived.SliceStrings
import Derived.Stop.Joined
import Derived.Test.YtjiendlfobjanaaGreatDoorCards
import Derived.Test.YtjiendlfobjanaaGreatDoorTie
namespace Go.Proofs.YtjiendlfobjanaaGreatDoor
open Go.ChangeShapes Go.WideShapes Go.ChangeAt Go.RowKit
set_option maxRecDepth 100000
variable {v:Value} {w:World}
theorem ownK:ownKnob Tryz.prog.godebug=none:=by kernel_rfl
theorem laidOut:laidOutB Tryz.prog=true:=by kernel_rfl
theorem cells52:Tryz.prog.cellsOf 52=1:=by kernel_rfl
theorem cell_lt {a:Addr} (h:w.cell? a=some v):a.block<w.heap.size:=by
 rcases Nat.lt_or_ge a.block w.heap.size with h1 | h1
 · exact h1
 · rw [World.cell?,Array.getElem?_eq_none h1] at h;cases h
theorem cells74:Tryz.prog.cellsOf 74=2:=by kernel_rfl
theorem under74:Tryz.prog.underlying 74=some (.array 2 52):=by kernel_rfl
theorem zMj:Tryz.prog.underlying 73=some (.slice 74):=by kernel_rfl
theorem zMU {α:Type} {P:Nat→α→Prop} (d:α):∀ n,(∀ i,i<n→∃ x,P i x)→∃ L:List α,L.length=n∧∀ i,i<n→P i (L.getD i d)
 | 0,_=>⟨[],rfl,fun i hi=>absurd hi (Nat.not_lt_zero i)⟩
 | n+1,h=>by
  obtain ⟨L,hl,hL⟩:=zMU d n fun i hi=>h i (by omega);obtain ⟨x,hx⟩:=h n (by omega);refine ⟨L++[x],by simp [hl],fun i hi => ?_⟩;by_cases e:i=n
  · subst e;have:(L++[x]).getD i d=x:=by simp [List.getD_eq_getElem?_getD,← hl]
    rw [this];exact hx
  · have hi':i<L.length:=by omega
    have:(L++[x]).getD i d=L.getD i d:=by simp [List.getD_eq_getElem?_getD,List.getElem?_append_left hi']
    rw [this];exact hL i (by omega)
theorem open_pv {H:Type} {enc:TypeId×Value→H} {W:World} {base b0:Nat} {d:DataW H} {p:List MemPlace} (hv:Value.okWide Tryz.prog W .any b0 73 v) (h:DataW.Trod enc Tryz.prog W base (fun _=>true) true 73 v d p):∃ L,IsPV W v L:=by
 obtain ⟨a0,len,cap,rfl⟩:=okWide_slice zMj hv;obtain ⟨fuel,hf⟩:=h;rcases Deep.open_slice zMj hf with ⟨hcs,-⟩ | ⟨a,len',cap',m,n,D,Pl,hcs,-,hl,-,hm,-,hel⟩
 · simp [Value.cells] at hcs;obtain ⟨rfl,rfl,rfl⟩:=hcs;exact ⟨[],none,0,rfl,Nat.le_refl _,fun i hi=>absurd hi (Nat.not_lt_zero i)⟩
 · simp [Value.cells] at hcs;obtain ⟨rfl,rfl,rfl⟩:=hcs;simp only [if_true] at hm;have each:∀ i,i<len→∃ x:TT,W.cell? (a.add (2*i))=some (S x.1)∧W.cell? (a.add (2*i+1))=some (S x.2):=fun i hi=>by
    obtain ⟨cs',h1,h2⟩:=hel i (by omega);rw [cells74] at h1;obtain ⟨-,hcl,hcell⟩:=World.cells?_some h1;obtain ⟨xs,k,-,-,-,hxl,hxs⟩:=DataW.trod_array under74 h2;have one:∀ j,j<2→∃ t:List UInt8,cs'[j]? = some (S t):=fun j hj=>by
     have h3:=hxs j hj;rw [cells52,Nat.mul_one,List.getElem?_eq_getElem (by omega)] at h3;obtain ⟨s,h4,-,-⟩:=DataW.trod_string Tryz.underlying52 h3;refine ⟨s.data.toList,?_⟩;have h5:=congrArg (fun l=>l[0]?) h4;simp only [List.getElem?_take,List.getElem?_drop] at h5;rw [if_pos (by decide)] at h5;rw [← S_of];exact h5
    obtain ⟨t,ht⟩:=one 0 (by decide);obtain ⟨s,hs⟩:=one 1 (by decide);refine ⟨(t,s),?_,?_⟩
    · have:=hcell 0 (by decide);rw [zEP,Nat.add_zero,ht,Nat.mul_comm] at this;exact this
    · have:=hcell 1 (by decide);rw [zEP,hs,Nat.mul_comm] at this;exact this
   obtain ⟨L,hL,hP⟩:=zMU (P:=fun i (x:TT)=>W.cell? (a.add (2*i))=some (S x.1)∧W.cell? (a.add (2*i+1))=some (S x.2)) ([],[]) len each;refine ⟨L,some a,cap,by rw [hL],by omega,fun i hi => ?_⟩;obtain ⟨c1,c2⟩:=hP i (by omega);have hb:=cell_lt c1;rw [zJw] at hb;exact ⟨a,rfl,hb,c1,c2⟩
theorem pow_global:Tryz.prog.globalNamed "internal/strconv.uint64pow10" = some 3:=by kernel_rfl
theorem pow_type:(Tryz.prog.globals[3]?).map (·.type)=some 406:=by kernel_rfl
theorem under406:Tryz.prog.underlying 406=some (.array 20 164):=by kernel_rfl
theorem cells164:Tryz.prog.cellsOf 164=1:=by kernel_rfl
theorem cells406:Tryz.prog.cellsOf 406=20:=by kernel_rfl
theorem laid_pow {W:World} (h:laidMetH Tryz.prog Rows.filterSectionsRow.laid W):Pow10 W:=by
 rw [MakeChecks.laidMetH_plain _ _ _ (by kernel_rfl)] at h;obtain ⟨ps,hL,-⟩:=h;obtain ⟨_,_,_,_,_,q1,_,_,_,_,hL,-⟩:=hL;obtain ⟨_,_,_,_,_,q2,_,_,_,_,hL,-⟩:=hL;obtain ⟨g,t,cs,fuel,p,q3,hg,ht,hvar,hd,-,-⟩:=hL;obtain rfl:=Option.some.inj (pow_global.symm.trans hg);obtain rfl:=Option.some.inj (pow_type.symm.trans ht);unfold Pow10 Lib.TabIs;have hdata:(Rows.laid_internal_strconv_uint64pow10:DataW Unit)=Lib.tabData .u64 Lib.pow10Tab:=rfl;rw [hdata] at hd;rw [hvar,← Lib.cells_of_tab under406 zJg cells164 cells406 hd]
theorem contract (H:Type) (enc:TypeId×Value→H) (W:World) (base:Nat) (args:Array Value) (ds gs:List (DataW H)) (before:List MemPlace)
 (hval:∀ (j:Nat) t v,Tryz.f6.params[j]? = some t→args[j]? = some v→Value.okWide Tryz.prog W .any base t v)
 (hW:DataW.Whole enc Tryz.prog Tryz.f6.params.toList Rows.filterSectionsSpec.vars false W args.toList ds gs before) (hP:Pow10 W) :
 Calls Tryz.prog 6 args W fun e W'=>∃ v,e = .returned v∧Rows.filterSectionsSpec.post enc Tryz.prog Tryz.f6 false true false false W args v W':=by
 have hW':=hW;obtain ⟨p,q,hA0,hV,rfl,hfz,hnd⟩:=hW;have hA:DataW.TrodAll enc Tryz.prog W 0 (fun _=>true) true Tryz.f6.params.toList args.toList ds p:=hA0;rw [Tryz.params6] at hA hval;obtain ⟨v0,d0,rfl,rfl,h0⟩:=trodAll_one hA;obtain ⟨rfl,rfl⟩:=trodVars_none hV;obtain ⟨L,hL⟩:=open_pv (hval 0 73 v0 rfl rfl) h0;have hl0:∀ x∈p,x.block<W.heap.size:=fun x hx=>hW'.lt x (by simp [hx]);refine Calls.mono (FilterSections_ok hL hP) fun e W' ⟨v,he,hB,hr⟩ => ?_;subst hr;refine ⟨_,he,[d0],[],_,[],p,[],hW',trodAll_mk1 (shut_bool Tryz.underlying4 _),trodAll_mk1 (Below.trod laidOut (by kernel_rfl) (of_decide_eq_true (by kernel_rfl)) h0 hB hl0),rfl,Below.frame hB _,fun h=>by cases h⟩
set_option maxRecDepth 100000 in
theorem laid_met (os:Os) (args:Array Value):laidMetH Tryz.prog Rows.filterSectionsRow.laid ((World.laidAll Tryz.prog os Rows.filterSectionsRow.laid).forCall (fun _ _=>0) ⟨#[],args,[]⟩).memory:=by
 rw [MakeChecks.laidMetH_plain _ _ _ (by kernel_rfl)];exact laidMet_laidAll _ (by kernel_rfl) (by kernel_rfl)
theorem reads (os:Os) {H:Type} (enc:TypeId×Value→H):∃ places,DataW.whole enc Tryz.prog ((World.laidAll Tryz.prog os Rows.filterSectionsRow.laid).forCall (fun _ _=>0) ⟨#[],#[.slice none 0 0],[]⟩).memory Tryz.f6.params.toList Rows.filterSectionsSpec.vars false #[Value.slice none 0 0].toList 8=some ([.nil],[],places) :=
 ⟨[],by kernel_rfl⟩
set_option maxRecDepth 100000 in
theorem lifted (os:Os) (started:os.Started) (H:Type) (enc:TypeId×Value→H) (F:Stop.Interp) :
 ReturnsInHanded {} Tryz.checked os 6 .any ((OpenSpec.ofChange Rows.filterSectionsSpec).preRow enc Tryz.prog Tryz.f6 Rows.filterSectionsRow.domain false Rows.filterSectionsRow.laid) (((OpenSpec.ofChange Rows.filterSectionsSpec).at F).post enc Tryz.prog Tryz.f6 false true false false):=by
 obtain ⟨places,hx⟩:=reads os enc
 refine returnsInHanded_of_row (C:=Tryz.checked) (s:=OpenSpec.ofChange Rows.filterSectionsSpec) ownK started (by kernel_rfl) Tryz.func6
  (witness_row_at (enc:=enc) (C:=Tryz.checked) false (World.laidAll Tryz.prog os Rows.filterSectionsRow.laid) #[.slice none 0 0] (World.laidAll_os _ _ _) (by kernel_rfl) (by kernel_rfl) (by kernel_rfl)
   (OpenSpec.preRow_of_cond 8 hx (by kernel_rfl) (fun k hk=>by cases hk) (by kernel_rfl) (laid_met os _))) ?_
 intro W base args ds gs before hval hW _ _ _ hlaid _ _;exact contract H enc W base args ds gs before hval hW (laid_pow hlaid)
end Go.Proofs.YtjiendlfobjanaaGreatDoor
