/-
  A part of the proof: CardKa.
-/
import Derived.Test.YtjiendlfobjanaaGreatDoorH06
import Derived.Carry
import Derived.Deep.DeepHandedRow
import Derived.LaidMore
import Derived.Lay
import Derived.Lib.LaidTab
import Derived.OpenShut
import Derived.ProofKit
import Derived.SevenTiedAt
import Derived.SliceStrings
import Derived.Stop.Joined
import Derived.Test.YtjiendlfobjanaaGreatDoorCards
import Derived.Test.YtjiendlfobjanaaGreatDoorTie
namespace Go.Proofs.YtjiendlfobjanaaGreatDoor
open Go.ChangeShapes Go.WideShapes Go.ChangeAt Go.RowKit
set_option maxRecDepth 100000
theorem ownK:ownKnob Tryz.prog.godebug=none:=by kernel_rfl
theorem pow_global:Tryz.prog.globalNamed "internal/strconv.uint64pow10" = some 3:=by kernel_rfl
theorem pow_type:(Tryz.prog.globals[3]?).map (·.type)=some 406:=by kernel_rfl
theorem under406:Tryz.prog.underlying 406=some (.array 20 164):=by kernel_rfl
theorem cells164:Tryz.prog.cellsOf 164=1:=by kernel_rfl
theorem cells406:Tryz.prog.cellsOf 406=20:=by kernel_rfl
theorem laid_pow {W:World} (h:laidMetH Tryz.prog Rows.filterKnownRow.laid W):Pow10 W:=by
 rw [MakeChecks.laidMetH_plain _ _ _ (by kernel_rfl)] at h;obtain ⟨ps,hL,-⟩:=h;obtain ⟨_,_,_,_,_,q1,_,_,_,_,hL,-⟩:=hL;obtain ⟨_,_,_,_,_,q2,_,_,_,_,hL,-⟩:=hL;obtain ⟨g,t,cs,fuel,p,q3,hg,ht,hvar,hd,-,-⟩:=hL;obtain rfl:=Option.some.inj (pow_global.symm.trans hg);obtain rfl:=Option.some.inj (pow_type.symm.trans ht);unfold Pow10 Lib.TabIs;have hdata:(Rows.laid_internal_strconv_uint64pow10:DataW Unit)=Lib.tabData .u64 Lib.pow10Tab:=rfl;rw [hdata] at hd;rw [hvar,← Lib.cells_of_tab under406 zJx cells164 cells406 hd]
theorem contract (H:Type) (enc:TypeId×Value→H) (W:World) (base:Nat) (args:Array Value) (ds gs:List (DataW H)) (before:List MemPlace)
 (hval:∀ (j:Nat) t v,Tryz.f12.params[j]? = some t→args[j]? = some v→Value.okWide Tryz.prog W .any base t v)
 (hW:DataW.Whole enc Tryz.prog Tryz.f12.params.toList Rows.filterKnownSpec.vars false W args.toList ds gs before) (hP:Pow10 W) :
 Calls Tryz.prog 12 args W fun e W'=>∃ v,e = .returned v∧Rows.filterKnownSpec.post enc Tryz.prog Tryz.f12 false true false false W args v W':=by
 have hW':=hW;obtain ⟨p,q,hA0,hV,rfl,hfz,hnd⟩:=hW;have hA:DataW.TrodAll enc Tryz.prog W 0 (fun _=>true) true Tryz.f12.params.toList args.toList ds p:=hA0;rw [Tryz.params12] at hA;obtain ⟨rfl,rfl,rfl⟩:=trodAll_none hA;obtain ⟨rfl,rfl⟩:=trodVars_none hV;refine Calls.mono (FilterKnown_ok hP) fun e W' ⟨v,he,hB,hr⟩ => ?_;subst hr;refine ⟨_,he,[],[],_,[],[],[],hW',trodAll_mk1 (shut_bool Tryz.underlying4 _),trodAll_mk0,rfl,Below.frame hB _,fun h=>by cases h⟩
set_option maxRecDepth 100000 in
theorem laid_met (os:Os) (args:Array Value):laidMetH Tryz.prog Rows.filterKnownRow.laid ((World.laidAll Tryz.prog os Rows.filterKnownRow.laid).forCall (fun _ _=>0) ⟨#[],args,[]⟩).memory:=by
 rw [MakeChecks.laidMetH_plain _ _ _ (by kernel_rfl)];exact laidMet_laidAll _ (by kernel_rfl) (by kernel_rfl)
theorem reads (os:Os) {H:Type} (enc:TypeId×Value→H):∃ places,DataW.whole enc Tryz.prog ((World.laidAll Tryz.prog os Rows.filterKnownRow.laid).forCall (fun _ _=>0) ⟨#[],#[],[]⟩).memory Tryz.f12.params.toList Rows.filterKnownSpec.vars false (#[]:Array Value).toList 8=some ([],[],places) :=
 ⟨[],by kernel_rfl⟩
set_option maxRecDepth 100000 in
theorem lifted (os:Os) (started:os.Started) (H:Type) (enc:TypeId×Value→H) (F:Stop.Interp) :
 ReturnsInHanded {} Tryz.checked os 12 .any ((OpenSpec.ofChange Rows.filterKnownSpec).preRow enc Tryz.prog Tryz.f12 Rows.filterKnownRow.domain false Rows.filterKnownRow.laid) (((OpenSpec.ofChange Rows.filterKnownSpec).at F).post enc Tryz.prog Tryz.f12 false true false false):=by
 obtain ⟨places,hx⟩:=reads os enc
 refine returnsInHanded_of_row (C:=Tryz.checked) (s:=OpenSpec.ofChange Rows.filterKnownSpec) ownK started (by kernel_rfl) Tryz.func12
  (witness_row_at (enc:=enc) (C:=Tryz.checked) false (World.laidAll Tryz.prog os Rows.filterKnownRow.laid) #[] (World.laidAll_os _ _ _) (by kernel_rfl) (by kernel_rfl) (by kernel_rfl)
   (OpenSpec.preRow_of_cond 12 hx (by kernel_rfl) (fun k hk=>by cases hk) (by kernel_rfl) (laid_met os _))) ?_
 intro W base args ds gs before hval hW _ _ _ hlaid _ _;exact contract H enc W base args ds gs before hval hW (laid_pow hlaid)
end Go.Proofs.YtjiendlfobjanaaGreatDoor
