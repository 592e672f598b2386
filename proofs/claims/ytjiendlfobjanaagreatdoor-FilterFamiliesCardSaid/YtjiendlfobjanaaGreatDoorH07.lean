/-
  A part of the proof: CardFa.
-/
import Derived.Test.YtjiendlfobjanaaGreatDoorH06
import Derived.Carry
import Derived.Deep.DeepHandedRow
import Derived.LaidMore
import Derived.Lay
import Derived.Lib.LaidTab
import Derived.OpenShut
import Derived.ProofKit
import Derived.SevenTiedAt
import Derived.SliceStrings
import Derived.Stop.Joined
import Derived.Test.YtjiendlfobjanaaGreatDoorCards
import Derived.Test.YtjiendlfobjanaaGreatDoorTie
namespace Go.Proofs.YtjiendlfobjanaaGreatDoor
open Go.ChangeShapes Go.WideShapes Go.ChangeAt Go.RowKit
set_option maxRecDepth 100000
variable {b0:Nat} {v:Value} {w:World}
theorem ownK:ownKnob Tryz.prog.godebug=none:=by kernel_rfl
theorem zKz:laidOutB Tryz.prog=true:=by kernel_rfl
theorem cells52:Tryz.prog.cellsOf 52=1:=by kernel_rfl
theorem cell_lt {a:Addr} (h:w.cell? a=some v):a.block<w.heap.size:=by
 rcases Nat.lt_or_ge a.block w.heap.size with h1 | h1
 · exact h1
 · rw [World.cell?,Array.getElem?_eq_none h1] at h;cases h
theorem open_vs {H:Type} {enc:TypeId×Value→H} {W:World} {base:Nat} {d:DataW H} {p:List MemPlace} (hv:Value.okWide Tryz.prog W .any b0 22 v) (h:DataW.Trod enc Tryz.prog W base (fun _=>true) true 22 v d p):∃ L,IsVs W v L:=by
 obtain ⟨a0,len,cap,rfl⟩:=okWide_slice Tryz.underlying22 hv;obtain ⟨fuel,hf⟩:=h;rcases open_strings Tryz.underlying22 Tryz.underlying52 cells52 hf with ⟨hcs,hx⟩ | ⟨a,len',cap',ss,hcs,_,hl,hm,hz,hx,hcell,hsz⟩
 · simp [Value.cells] at hcs;obtain ⟨rfl,rfl,rfl⟩:=hcs;exact ⟨[],none,0,rfl,Nat.le_refl _,fun i hi=>by simp at hi⟩
 · simp [Value.cells] at hcs;obtain ⟨rfl,rfl,rfl⟩:=hcs;simp only [if_true] at hz;refine ⟨(ss.take len).map fun s=>s.data.toList,some a,cap,by simp [hz,Nat.min_eq_left hl],by simp;omega,fun i hi => ?_⟩;have hi':i<len:=by simp at hi;omega
   have hc:=hcell i (by omega);have hb:=cell_lt hc;rw [zKX] at hb;refine ⟨a,rfl,hb,?_⟩;rw [hc];have e:((ss.take len).map fun s=>s.data.toList).getD i []=(ss.getD i ByteArray.empty).data.toList:=by
    have h1:i<ss.length:=by omega
    simp [List.getD_eq_getElem?_getD,List.getElem?_take,hi',List.getElem?_eq_getElem h1]
   rw [e,← S_of]
theorem open_i64 {W:World} (hv:Value.okWide Tryz.prog W .any b0 3 v):∃ n:Int,v = .int .i64 n:=okWide_int Tryz.underlying3 hv
theorem types74:Tryz.prog.cellTypes Tryz.prog.depth 74=some [52,52]:=by kernel_rfl
theorem cells74:Tryz.prog.cellsOf 74=2:=by kernel_rfl
theorem open_arr {W:World} (hv:Value.okWide Tryz.prog W .any b0 74 v):∃ t s:List UInt8,v = .agg #[S t,S s]:=by
 unfold Value.okWide at hv;rw [zHK] at hv;obtain ⟨cs,rfl,hsz,ts,hts,-,hc⟩:=hv;rw [cells74] at hsz;rw [types74] at hts;obtain rfl:=Option.some.inj hts;have one:∀ i,i<2→∃ t:List UInt8,cs[i]? = some (S t):=fun i hi=>by
  obtain ⟨u,h1,h2⟩:=hc i cs[i] (by simp [hsz,hi]);have hu:u=52:=by
   rcases (show i=0∨i=1 by omega) with rfl | rfl
   · exact (Option.some.inj (show some 52=some u from h1)).symm
   · exact (Option.some.inj (show some 52=some u from h1)).symm
  subst hu;obtain ⟨s,hs⟩:=okWide_string (P:=Tryz.prog) Tryz.underlying52 (show Value.okWide Tryz.prog W .any b0 52 cs[i] by unfold Value.okWide;rw [Tryz.underlying52];exact h2);exact ⟨s.data.toList,by rw [Array.getElem?_eq_getElem (by omega),hs,S_of]⟩
 obtain ⟨t,ht⟩:=one 0 (by decide);obtain ⟨s,hs⟩:=one 1 (by decide);refine ⟨t,s,congrArg Value.agg ?_⟩;apply Array.ext_getElem?;intro i
 match i with
 | 0=>exact ht
 | 1=>exact hs
 | i+2=>rw [Array.getElem?_eq_none (by omega),Array.getElem?_eq_none (by simp)]
theorem pow_global:Tryz.prog.globalNamed "internal/strconv.uint64pow10" = some 3:=by kernel_rfl
theorem pow_type:(Tryz.prog.globals[3]?).map (·.type)=some 406:=by kernel_rfl
theorem under406:Tryz.prog.underlying 406=some (.array 20 164):=by kernel_rfl
theorem cells164:Tryz.prog.cellsOf 164=1:=by kernel_rfl
theorem cells406:Tryz.prog.cellsOf 406=20:=by kernel_rfl
theorem laid_pow {W:World} (h:laidMetH Tryz.prog Rows.filterFamiliesRow.laid W):Pow10 W:=by
 rw [MakeChecks.laidMetH_plain _ _ _ (by kernel_rfl)] at h;obtain ⟨ps,hL,-⟩:=h;obtain ⟨_,_,_,_,_,q1,_,_,_,_,hL,-⟩:=hL;obtain ⟨_,_,_,_,_,q2,_,_,_,_,hL,-⟩:=hL;obtain ⟨g,t,cs,fuel,p,q3,hg,ht,hvar,hd,-,-⟩:=hL;obtain rfl:=Option.some.inj (pow_global.symm.trans hg);obtain rfl:=Option.some.inj (pow_type.symm.trans ht);unfold Pow10 Lib.TabIs;have hdata:(Rows.laid_internal_strconv_uint64pow10:DataW Unit)=Lib.tabData .u64 Lib.pow10Tab:=rfl;rw [hdata] at hd;rw [hvar,← Lib.cells_of_tab under406 zJB cells164 cells406 hd]
theorem contract (H:Type) (enc:TypeId×Value→H) (W:World) (base:Nat) (args:Array Value) (ds gs:List (DataW H)) (before:List MemPlace)
 (hval:∀ (j:Nat) t v,Tryz.f8.params[j]? = some t→args[j]? = some v→Value.okWide Tryz.prog W .any base t v)
 (hW:DataW.Whole enc Tryz.prog Tryz.f8.params.toList Rows.filterFamiliesSpec.vars false W args.toList ds gs before) (hP:Pow10 W) :
 Calls Tryz.prog 8 args W fun e W'=>∃ v,e = .returned v∧Rows.filterFamiliesSpec.post enc Tryz.prog Tryz.f8 false true false false W args v W':=by
 have hW':=hW;obtain ⟨p,q,hA0,hV,rfl,hfz,hnd⟩:=hW;have hA:DataW.TrodAll enc Tryz.prog W 0 (fun _=>true) true Tryz.f8.params.toList args.toList ds p:=hA0;rw [Tryz.params8] at hA hval;obtain ⟨v0,v1,v2,d0,d1,d2,p0,p1,p2,rfl,rfl,rfl,h0,h1,h2⟩:=trodAll_three hA;obtain ⟨rfl,rfl⟩:=trodVars_none hV;obtain ⟨n,rfl⟩:=open_i64 (hval 0 3 v0 rfl rfl);obtain ⟨L,hL⟩:=open_vs (hval 1 22 v1 rfl rfl) h1;obtain ⟨t,s,rfl⟩:=open_arr (hval 2 74 v2 rfl rfl);have hl0:∀ x∈p0,x.block<W.heap.size:=fun x hx=>hW'.lt x (by simp [hx]);have hl1:∀ x∈p1,x.block<W.heap.size:=fun x hx=>hW'.lt x (by simp [hx]);have hl2:∀ x∈p2,x.block<W.heap.size:=fun x hx=>hW'.lt x (by simp [hx]);refine Calls.mono (FilterFamilies_ok (i:=n) (t:=t) (s:=s) hL hP) fun e W' ⟨v,he,hB,hr⟩ => ?_;subst hr;refine ⟨_,he,[d0,d1,d2],[],_,[],p0++(p1++p2),[],hW',trodAll_mk1 (shut_bool Tryz.underlying4 _),trodAll_mk3 (Below.trod zKz (by kernel_rfl) (of_decide_eq_true (by kernel_rfl)) h0 hB hl0) (Below.trod zKz (by kernel_rfl) (of_decide_eq_true (by kernel_rfl)) h1 hB hl1) (Below.trod zKz (by kernel_rfl) (of_decide_eq_true (by kernel_rfl)) h2 hB hl2),rfl,Below.frame hB _,fun h=>by cases h⟩
set_option maxRecDepth 100000 in
theorem laid_met (os:Os) (args:Array Value):laidMetH Tryz.prog Rows.filterFamiliesRow.laid ((World.laidAll Tryz.prog os Rows.filterFamiliesRow.laid).forCall (fun _ _=>0) ⟨#[],args,[]⟩).memory:=by
 rw [MakeChecks.laidMetH_plain _ _ _ (by kernel_rfl)];exact laidMet_laidAll _ (by kernel_rfl) (by kernel_rfl)
theorem reads (os:Os) {H:Type} (enc:TypeId×Value→H):∃ places,DataW.whole enc Tryz.prog ((World.laidAll Tryz.prog os Rows.filterFamiliesRow.laid).forCall (fun _ _=>0) ⟨#[],#[.int .i64 0,.slice none 0 0,.agg #[S [],S []]],[]⟩).memory Tryz.f8.params.toList Rows.filterFamiliesSpec.vars false #[Value.int .i64 0,.slice none 0 0,.agg #[S [],S []]].toList 8=some ([.lit (.int .i64 0),.nil,.agg [.lit (.string []),.lit (.string [])]],[],places) :=
 ⟨[],by kernel_rfl⟩
set_option maxRecDepth 100000 in
theorem lifted (os:Os) (started:os.Started) (H:Type) (enc:TypeId×Value→H) (F:Stop.Interp) :
 ReturnsInHanded {} Tryz.checked os 8 .any ((OpenSpec.ofChange Rows.filterFamiliesSpec).preRow enc Tryz.prog Tryz.f8 Rows.filterFamiliesRow.domain false Rows.filterFamiliesRow.laid) (((OpenSpec.ofChange Rows.filterFamiliesSpec).at F).post enc Tryz.prog Tryz.f8 false true false false):=by
 obtain ⟨places,hx⟩:=reads os enc
 refine returnsInHanded_of_row (C:=Tryz.checked) (s:=OpenSpec.ofChange Rows.filterFamiliesSpec) ownK started (by kernel_rfl) Tryz.func8
  (witness_row_at (enc:=enc) (C:=Tryz.checked) false (World.laidAll Tryz.prog os Rows.filterFamiliesRow.laid) #[.int .i64 0,.slice none 0 0,.agg #[S [],S []]] (World.laidAll_os _ _ _) (by kernel_rfl) (by kernel_rfl) (by kernel_rfl)
   (OpenSpec.preRow_of_cond 8 hx (by kernel_rfl) (fun k hk=>by cases hk) (by kernel_rfl) (laid_met os _))) ?_
 intro W base args ds gs before hval hW _ _ _ hlaid _ _;exact contract H enc W base args ds gs before hval hW (laid_pow hlaid)
end Go.Proofs.YtjiendlfobjanaaGreatDoor
