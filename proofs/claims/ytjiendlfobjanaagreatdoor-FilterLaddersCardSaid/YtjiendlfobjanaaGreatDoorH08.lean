/-
  A part of the proof: CardLa.
-/
import Derived.Test.YtjiendlfobjanaaGreatDoorH07
import Derived.Carry
import Derived.Deep.DeepHandedRow
import Derived.LaidMore
import Derived.Lay
import Derived.Lib.LaidTab
import Derived.OpenShut
import Derived.ProofKit
import Derived.SevenTiedAt
import Derived.SliceStrings
import Derived.Stop.Joined
import Derived.Test.YtjiendlfobjanaaGreatDoorCards
import Derived.Test.YtjiendlfobjanaaGreatDoorTie
namespace Go.Proofs.YtjiendlfobjanaaGreatDoor
open Go.ChangeShapes Go.WideShapes Go.ChangeAt Go.RowKit
set_option maxRecDepth 100000
variable {v:Value} {w:World}
theorem ownK:ownKnob Tryz.prog.godebug=none:=kR
theorem zPl:laidOutB Tryz.prog=true:=kR
theorem cells52:Tryz.prog.cellsOf 52=1:=kR
theorem cell_lt {a:Addr} (h:w.cell? a=some v):a.block<w.heap.size:=by
 rcases dR a.block w.heap.size with b | b
 . exact b
 . rw [World.cell?,Array.getElem?_eq_none b] at h;cases h
theorem zTC {H:Type} {enc:TypeId×Value->H} {W:World} {base b0:Nat} {d:DataW H} {p:List MemPlace} (o:Value.okWide Tryz.prog W .any b0 22 v) (h:DataW.Trod enc Tryz.prog W base (fun _=>true) true 22 v d p):∃ L,IsVs W v L:=by
 obtain ⟨a0,len,cap,rfl⟩:=okWide_slice Tryz.underlying22 o;obtain ⟨fuel,q⟩:=h;rcases open_strings Tryz.underlying22 Tryz.underlying52 cells52 q with ⟨b,r⟩ | ⟨a,m,n,f,b,_,t,y,j,r,c,x⟩
 . simp [Value.cells] at b;obtain ⟨rfl,rfl,rfl⟩:=b;exact ⟨[],none,0,rfl,cX _,fun i g=>by simp at g⟩
 . simp [Value.cells] at b;obtain ⟨rfl,rfl,rfl⟩:=b;simp only [ga] at j;refine ⟨(f.take len).map fun s=>s.data.toList,some a,cap,by simp [j,dT t],by simp;omega,fun i g => ?_⟩;have hi':i<len:=by simp at g;omega
   have k:=c i oM;have l:=cell_lt k;rw [zNp] at l;refine ⟨a,rfl,l,?_⟩;rw [k];have e:((f.take len).map fun s=>s.data.toList).getD i []=(f.getD i ByteArray.empty).data.toList:=by
    have u:i<f.length:=oM
    simp [cC,fk,hi',cY u]
   rw [e,<- S_of]
theorem types74:Tryz.prog.cellTypes Tryz.prog.depth 74=some [52,52]:=kR
theorem cells74:Tryz.prog.cellsOf 74=2:=kR
theorem open_arr {W:World} {b0:Nat} (c:Value.okWide Tryz.prog W .any b0 74 v):∃ t s:List UInt8,v = .agg #[S t,S s]:=by
 unfold Value.okWide at c;rw [zLQ] at c;obtain ⟨cs,rfl,a,j,b,-,f⟩:=c;rw [cells74] at a;rw [types74] at b;obtain rfl:=dj b;have one:∀ i,i<2->∃ t:List UInt8,cs[i]? = some (S t):=fun i hi=>by
  obtain ⟨u,e,g⟩:=f i cs[i] (by simp [a,hi]);have hu:u=52:=by
   rcases (oM:i=0\/i=1) with rfl | rfl
   . exact (dj (show some 52=some u from e)).symm
   . exact (dj (show some 52=some u from e)).symm
  subst hu;obtain ⟨s,d⟩:=okWide_string (P:=Tryz.prog) Tryz.underlying52 (show Value.okWide Tryz.prog W .any b0 52 cs[i] by unfold Value.okWide;rw [Tryz.underlying52];exact g);exact ⟨s.data.toList,by rw [Array.getElem?_eq_getElem oM,d,S_of]⟩
 obtain ⟨t,h⟩:=one 0 dE;obtain ⟨s,d⟩:=one 1 dE;refine ⟨t,s,cW Value.agg ?_⟩;apply Array.ext_getElem?;intro i
 match i with
 | 0=>exact h
 | 1=>exact d
 | i+2=>rw [Array.getElem?_eq_none oM,Array.getElem?_eq_none sM]
theorem pow_global:Tryz.prog.globalNamed "internal/strconv.uint64pow10" = some 3:=kR
theorem pow_type:(Tryz.prog.globals[3]?).map (·.type)=some 406:=kR
theorem under406:Tryz.prog.underlying 406=some (.array 20 164):=kR
theorem cells164:Tryz.prog.cellsOf 164=1:=kR
theorem cells406:Tryz.prog.cellsOf 406=20:=kR
theorem laid_pow {W:World} (h:laidMetH Tryz.prog Rows.filterLaddersRow.laid W):Pow10 W:=by
 rw [MakeChecks.laidMetH_plain _ _ _ kR] at h;obtain ⟨f,a,-⟩:=h;obtain ⟨_,_,_,_,_,q1,_,_,_,_,a,-⟩:=a;obtain ⟨_,_,_,_,_,i,_,_,_,_,a,-⟩:=a;obtain ⟨g,t,cs,fuel,p,j,d,e,b,c,-,-⟩:=a;obtain rfl:=dj (pow_global.symm.trans d);obtain rfl:=dj (pow_type.symm.trans e);unfold Pow10 Lib.TabIs;have hdata:(Rows.laid_internal_strconv_uint64pow10:DataW Unit)=Lib.tabData .u64 Lib.pow10Tab:=rfl;rw [hdata] at c;rw [b,<- Lib.cells_of_tab under406 zNh cells164 cells406 c]
theorem contract (H:Type) (enc:TypeId×Value->H) (W:World) (base:Nat) (args:Array Value) (ds z:List (DataW H)) (c:List MemPlace)
 (a:∀ (j:Nat) t v,Tryz.f7.params[j]? = some t->args[j]? = some v->Value.okWide Tryz.prog W .any base t v)
 (l:DataW.Whole enc Tryz.prog Tryz.f7.params.toList Rows.filterLaddersSpec.vars false W args.toList ds z c) (A:Pow10 W) :
 Calls Tryz.prog 7 args W fun e m=>∃ v,e = .returned v/\Rows.filterLaddersSpec.post enc Tryz.prog Tryz.f7 false true false false W args v m:=by
 have b:=l;obtain ⟨p,q,f,B,rfl,K,N⟩:=l;have hA:DataW.TrodAll enc Tryz.prog W 0 (fun _=>true) true Tryz.f7.params.toList args.toList ds p:=f;rw [Tryz.params7] at hA a;obtain ⟨C,D,E,d0,d1,d2,n,o,r,rfl,rfl,rfl,u,y,F⟩:=trodAll_three hA;obtain ⟨rfl,rfl⟩:=trodVars_none B;obtain ⟨L,G⟩:=zTC (a 0 22 C rfl rfl) u;obtain ⟨M,I⟩:=zTC (a 1 22 D rfl rfl) y;obtain ⟨t,s,rfl⟩:=open_arr (a 2 74 E rfl rfl);have g:∀ x∈n,x.block<W.heap.size:=fun x hx=>b.lt x (by simp [hx]);have i:∀ x∈o,x.block<W.heap.size:=fun x hx=>b.lt x (by simp [hx]);have k:∀ x∈r,x.block<W.heap.size:=fun x hx=>b.lt x (by simp [hx]);refine Calls.mono (FilterLadders_ok (t:=t) (s:=s) G I A) fun e m ⟨v,he,d,J⟩ => ?_;subst J;refine ⟨_,he,[d0,d1,d2],[],_,[],n++(o++r),[],b,trodAll_mk1 (shut_bool Tryz.underlying4 _),trodAll_mk3 (Below.trod zPl kR (dh kR) u d g) (Below.trod zPl kR (dh kR) y d i) (Below.trod zPl kR (dh kR) F d k),rfl,Below.frame d _,fun h=>by cases h⟩
set_option maxRecDepth 100000 in
theorem laid_met (a:Os) (args:Array Value):laidMetH Tryz.prog Rows.filterLaddersRow.laid ((World.laidAll Tryz.prog a Rows.filterLaddersRow.laid).forCall (fun _ _=>0) ⟨#[],args,[]⟩).memory:=by
 rw [MakeChecks.laidMetH_plain _ _ _ kR];exact laidMet_laidAll _ kR kR
theorem reads (b:Os) {H:Type} (enc:TypeId×Value->H):∃ a,DataW.whole enc Tryz.prog ((World.laidAll Tryz.prog b Rows.filterLaddersRow.laid).forCall (fun _ _=>0) ⟨#[],#[.slice none 0 0,.slice none 0 0,.agg #[S [],S []]],[]⟩).memory Tryz.f7.params.toList Rows.filterLaddersSpec.vars false #[Value.slice none 0 0,.slice none 0 0,.agg #[S [],S []]].toList 8=some ([.nil,.nil,.agg [.lit (.string []),.lit (.string [])]],[],a) :=
 ⟨[],kR⟩
set_option maxRecDepth 100000 in
theorem lifted (d:Os) (a:d.Started) (H:Type) (enc:TypeId×Value->H) (F:Stop.Interp) :
 ReturnsInHanded {} Tryz.checked d 7 .any ((OpenSpec.ofChange Rows.filterLaddersSpec).preRow enc Tryz.prog Tryz.f7 Rows.filterLaddersRow.domain false Rows.filterLaddersRow.laid) (((OpenSpec.ofChange Rows.filterLaddersSpec).at F).post enc Tryz.prog Tryz.f7 false true false false):=by
 obtain ⟨f,g⟩:=reads d enc
 refine returnsInHanded_of_row (C:=Tryz.checked) (s:=OpenSpec.ofChange Rows.filterLaddersSpec) ownK a kR Tryz.func7
  (witness_row_at (enc:=enc) (C:=Tryz.checked) false (World.laidAll Tryz.prog d Rows.filterLaddersRow.laid) #[.slice none 0 0,.slice none 0 0,.agg #[S [],S []]] (World.laidAll_os _ _ _) kR kR kR
   (OpenSpec.preRow_of_cond 7 g kR (fun k h=>by cases h) kR (laid_met d _))) ?_
 intro W base args ds i b e j _ _ _ c _ _;exact contract H enc W base args ds i b e j (laid_pow c)
end Go.Proofs.YtjiendlfobjanaaGreatDoor
