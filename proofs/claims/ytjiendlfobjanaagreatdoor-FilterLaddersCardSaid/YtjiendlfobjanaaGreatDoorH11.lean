/-
  A part of the proof: CardLd.
-/
import Derived.Test.YtjiendlfobjanaaGreatDoorH10
namespace Go.Proofs.YtjiendlfobjanaaGreatDoor
open Go.ChangeShapes Go.WideShapes Go.ChangeAt Go.RowKit
set_option maxRecDepth 100000
theorem said:Rows.FilterLaddersSaid :=
 OpenClaim.holds_of_cond 7 Tryz.f7 rfl rfl rfl rfl rfl rfl rfl ⟨rfl,rfl,rfl,rfl,rfl⟩ rfl rfl rfl rfl rfl zSp Tryz.func7 h_closed
  h_inst h_wrap
  (fun b a H enc _ F=>by rw [OpenClaim.pre_eq_preRow];exact lifted b a H enc F)
theorem plain (f:FuncId) (a:Func) (d:Tryz.pinned.checked.prog.funcNamed Rows.filterLaddersRow.func=some f) (b:Tryz.pinned.checked.prog.funcs[f]? = some a) :
 false=Tryz.pinned.checked.prog.looks []/\∀ (j:Nat) t,a.params[j]? = some t->Tryz.pinned.checked.prog.wantsStandIn t=false:=by
 obtain rfl:f=7:=dj (zSp.symm.trans d) |>.symm;obtain rfl:a=Tryz.f7:=(dj (Tryz.func7.symm.trans b)).symm;refine ⟨kR,fun j t c => ?_⟩;rw [Tryz.params7] at c;have e:t=22\/t=74:=by simpa using Array.mem_of_getElem? c
 rcases e with rfl | rfl
 . exact (kR:Tryz.prog.wantsStandIn 22=false)
 . exact (kR:Tryz.prog.wantsStandIn 74=false)
end Go.Proofs.YtjiendlfobjanaaGreatDoor
