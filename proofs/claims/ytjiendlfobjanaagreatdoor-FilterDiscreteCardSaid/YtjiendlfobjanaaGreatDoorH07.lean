/-
  A part of the proof: CardDa.
-/
import Derived.Test.YtjiendlfobjanaaGreatDoorH06
import Derived.Carry
import Derived.Deep.DeepHandedRow
import Derived.LaidMore
import Derived.Lay
import Derived.OpenShut
import Derived.ProofKit
import Derived.SevenTiedAt
import Derived.SliceStrings
import Derived.Stop.Joined
import Derived.Test.YtjiendlfobjanaaGreatDoorCards
import Derived.Test.YtjiendlfobjanaaGreatDoorTie
namespace Go.Proofs.YtjiendlfobjanaaGreatDoor
open Go.ChangeShapes Go.WideShapes Go.ChangeAt Go.RowKit
set_option maxRecDepth 100000
variable {b0:Nat} {v:Value} {w:World}
theorem ownK:ownKnob Tryz.prog.godebug=none:=by kernel_rfl
theorem zMn:laidOutB Tryz.prog=true:=by kernel_rfl
theorem cells52:Tryz.prog.cellsOf 52=1:=by kernel_rfl
theorem cell_lt {a:Addr} (h:w.cell? a=some v):a.block<w.heap.size:=by
 rcases Nat.lt_or_ge a.block w.heap.size with h1 | h1
 · exact h1
 · rw [World.cell?,Array.getElem?_eq_none h1] at h;cases h
theorem open_vs {H:Type} {enc:TypeId×Value→H} {W:World} {base:Nat} {d:DataW H} {p:List MemPlace} (hv:Value.okWide Tryz.prog W .any b0 22 v) (h:DataW.Trod enc Tryz.prog W base (fun _=>true) true 22 v d p):∃ L,IsVs W v L:=by
 obtain ⟨a0,len,cap,rfl⟩:=okWide_slice Tryz.underlying22 hv;obtain ⟨fuel,hf⟩:=h;rcases open_strings Tryz.underlying22 Tryz.underlying52 cells52 hf with ⟨hcs,hx⟩ | ⟨a,len',cap',ss,hcs,_,hl,hm,hz,hx,hcell,hsz⟩
 · simp [Value.cells] at hcs;obtain ⟨rfl,rfl,rfl⟩:=hcs;exact ⟨[],none,0,rfl,Nat.le_refl _,fun i hi=>by simp at hi⟩
 · simp [Value.cells] at hcs;obtain ⟨rfl,rfl,rfl⟩:=hcs;simp only [if_true] at hz;refine ⟨(ss.take len).map fun s=>s.data.toList,some a,cap,by simp [hz,Nat.min_eq_left hl],by simp;omega,fun i hi => ?_⟩;have hi':i<len:=by simp at hi;omega
   have hc:=hcell i (by omega);have hb:=cell_lt hc;rw [zLu] at hb;refine ⟨a,rfl,hb,?_⟩;rw [hc];have e:((ss.take len).map fun s=>s.data.toList).getD i []=(ss.getD i ByteArray.empty).data.toList:=by
    have h1:i<ss.length:=by omega
    simp [List.getD_eq_getElem?_getD,List.getElem?_take,hi',List.getElem?_eq_getElem h1]
   rw [e,← S_of]
theorem open_u8 {W:World} (hv:Value.okWide Tryz.prog W .any b0 5 v):∃ n:Nat,v = .int .u8 (n:Int)∧n<256:=by
 obtain ⟨z,rfl⟩:=okWide_int Tryz.underlying5 hv;simp only [Value.okWide,Tryz.underlying5,Cell.okWide,Cell.ok,IntKind.has] at hv;have h1:(0:Int)≤z:=hv.2.1;have h2:z≤255:=hv.2.2;exact ⟨z.toNat,by rw [Int.toNat_of_nonneg h1],by omega⟩
theorem open_val {W:World} (hv:Value.okWide Tryz.prog W .any b0 52 v):∃ t:List UInt8,v=S t:=by
 obtain ⟨s,rfl⟩:=okWide_string Tryz.underlying52 hv;exact ⟨s.data.toList,S_of s⟩
theorem contract (H:Type) (enc:TypeId×Value→H) (W:World) (base:Nat) (args:Array Value) (ds gs:List (DataW H)) (before:List MemPlace)
 (hval:∀ (j:Nat) t v,Tryz.f9.params[j]? = some t→args[j]? = some v→Value.okWide Tryz.prog W .any base t v)
 (hW:DataW.Whole enc Tryz.prog Tryz.f9.params.toList Rows.filterDiscreteSpec.vars false W args.toList ds gs before) :
 Calls Tryz.prog 9 args W fun e W'=>∃ v,e = .returned v∧Rows.filterDiscreteSpec.post enc Tryz.prog Tryz.f9 false true false false W args v W':=by
 have hW':=hW;obtain ⟨p,q,hA0,hV,rfl,hfz,hnd⟩:=hW;have hA:DataW.TrodAll enc Tryz.prog W 0 (fun _=>true) true Tryz.f9.params.toList args.toList ds p:=hA0;rw [Tryz.params9] at hA hval;obtain ⟨v0,v1,v2,d0,d1,d2,p0,p1,p2,rfl,rfl,rfl,h0,h1,h2⟩:=trodAll_three hA;obtain ⟨rfl,rfl⟩:=trodVars_none hV;obtain ⟨L,hL⟩:=open_vs (hval 0 22 v0 rfl rfl) h0;obtain ⟨n,rfl,hn⟩:=open_u8 (hval 1 5 v1 rfl rfl);obtain ⟨t,rfl⟩:=open_val (hval 2 52 v2 rfl rfl);have hl0:∀ x∈p0,x.block<W.heap.size:=fun x hx=>hW'.lt x (by simp [hx]);have hl1:∀ x∈p1,x.block<W.heap.size:=fun x hx=>hW'.lt x (by simp [hx]);have hl2:∀ x∈p2,x.block<W.heap.size:=fun x hx=>hW'.lt x (by simp [hx]);refine Calls.mono (FilterDiscrete_ok (t:=t) hn hL) fun e W' ⟨v,he,hB,hr⟩ => ?_;subst hr;refine ⟨_,he,[d0,d1,d2],[],_,[],p0++(p1++p2),[],hW',trodAll_mk1 (shut_bool Tryz.underlying4 _),trodAll_mk3 (Below.trod zMn (by kernel_rfl) (of_decide_eq_true (by kernel_rfl)) h0 hB hl0) (Below.trod zMn (by kernel_rfl) (of_decide_eq_true (by kernel_rfl)) h1 hB hl1) (Below.trod zMn (by kernel_rfl) (of_decide_eq_true (by kernel_rfl)) h2 hB hl2),rfl,Below.frame hB _,fun h=>by cases h⟩
set_option maxRecDepth 100000 in
theorem laid_met (os:Os) (args:Array Value):laidMetH Tryz.prog Rows.filterDiscreteRow.laid ((World.laidAll Tryz.prog os Rows.filterDiscreteRow.laid).forCall (fun _ _=>0) ⟨#[],args,[]⟩).memory:=by
 rw [MakeChecks.laidMetH_plain _ _ _ (by kernel_rfl)];exact laidMet_laidAll _ (by kernel_rfl) (by kernel_rfl)
theorem reads (os:Os) {H:Type} (enc:TypeId×Value→H):∃ places,DataW.whole enc Tryz.prog ((World.laidAll Tryz.prog os Rows.filterDiscreteRow.laid).forCall (fun _ _=>0) ⟨#[],#[.slice none 0 0,.int .u8 0,S []],[]⟩).memory Tryz.f9.params.toList Rows.filterDiscreteSpec.vars false #[Value.slice none 0 0,.int .u8 0,S []].toList 8=some ([.nil,.lit (.int .u8 0),.lit (.string [])],[],places) :=
 ⟨[],by kernel_rfl⟩
set_option maxRecDepth 100000 in
theorem lifted (os:Os) (started:os.Started) (H:Type) (enc:TypeId×Value→H) (F:Stop.Interp) :
 ReturnsInHanded {} Tryz.checked os 9 .any ((OpenSpec.ofChange Rows.filterDiscreteSpec).preRow enc Tryz.prog Tryz.f9 Rows.filterDiscreteRow.domain false Rows.filterDiscreteRow.laid) (((OpenSpec.ofChange Rows.filterDiscreteSpec).at F).post enc Tryz.prog Tryz.f9 false true false false):=by
 obtain ⟨places,hx⟩:=reads os enc
 refine returnsInHanded_of_row (C:=Tryz.checked) (s:=OpenSpec.ofChange Rows.filterDiscreteSpec) ownK started (by kernel_rfl) Tryz.func9
  (witness_row_at (enc:=enc) (C:=Tryz.checked) false (World.laidAll Tryz.prog os Rows.filterDiscreteRow.laid) #[.slice none 0 0,.int .u8 0,S []] (World.laidAll_os _ _ _) (by kernel_rfl) (by kernel_rfl) (by kernel_rfl)
   (OpenSpec.preRow_of_cond 8 hx (by kernel_rfl) (fun k hk=>by cases hk) (by kernel_rfl) (laid_met os _))) ?_
 intro W base args ds gs before hval hW _ _ _ _ _ _;exact contract H enc W base args ds gs before hval hW
end Go.Proofs.YtjiendlfobjanaaGreatDoor
