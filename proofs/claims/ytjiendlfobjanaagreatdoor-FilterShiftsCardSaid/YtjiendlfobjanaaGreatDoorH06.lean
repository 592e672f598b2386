/-
  A part of the proof: W54, Rev98, LawH, LawS, W56, W57, W58.
-/
import Derived.Test.YtjiendlfobjanaaGreatDoorH05
import Derived.Shelf.SlicesQ.Reverse
namespace Go.Proofs.YtjiendlfobjanaaGreatDoor
open Go Go.RowKit Go.Proofs Tryz
set_option maxRecDepth 10000
set_option maxHeartbeats 2000000
attribute [local irreducible] Runs WPE CallK Ret
variable {LL : List (List (List UInt8))} {T : TypeId} {b cu i n : Nat} {p : Poly} {pu : Option Addr} {v : Value} {w : World} {α : Type}
def IsVV (w : World) (v : Value) (LL : List (List (List UInt8))) : Prop := ∃ p cap,v = .slice p LL.length cap∧LL.length≤cap∧∀ i,i < LL.length→∃ (a : Addr) (pu : Option Addr) (cu : Nat),p = some a∧a.block < w.heap.size∧w.cell? (a.add i) = some (.slice pu (LL.getD i []).length cu)∧IsVs w (.slice pu (LL.getD i []).length cu) (LL.getD i [])
theorem IsVV.one {M : List (List UInt8)} (hB : Blk w b T [.slice pu n cu]) (hn : n = M.length) (h : IsVs w (.slice pu M.length cu) M) : IsVV w (.slice (some ⟨b,0,none⟩) 1 1) [M] := by
 subst hn;refine ⟨_,1,rfl,Nat.le_refl _,fun i hi => ?_⟩;have : i = 0 := by simpa using hi
 subst this;exact ⟨⟨b,0,none⟩,pu,cu,rfl,hB.lt,by rw [addr_add,hB.cell];rfl,h⟩
theorem any_hit {l : List α} {p : α→Bool} {d : α} (hi : i < l.length) (h : p (l.getD i d) = true) : l.any p = true := by
 rw [List.any_eq_true];exact ⟨l[i],List.getElem_mem hi,by simpa [List.getD_eq_getElem?_getD,List.getElem?_eq_getElem hi] using h⟩
theorem any_miss {l : List α} {p : α→Bool} {d : α} (h : ∀ i,i < l.length→p (l.getD i d) = false) : l.any p = false := by
 rw [List.any_eq_false];intro x hx;obtain ⟨i,hi,rfl⟩ := List.getElem_of_mem hx;have := h i hi;simp [List.getD_eq_getElem?_getD,List.getElem?_eq_getElem hi] at this;simp [this]
theorem all_hit {l : List α} {p : α→Bool} {d : α} (h : ∀ i,i < l.length→p (l.getD i d) = true) : l.all p = true := by
 rw [List.all_eq_true];intro x hx;obtain ⟨i,hi,rfl⟩ := List.getElem_of_mem hx;simpa [List.getD_eq_getElem?_getD,List.getElem?_eq_getElem hi] using h i hi
theorem all_miss {l : List α} {p : α→Bool} {d : α} (hi : i < l.length) (h : p (l.getD i d) = false) : l.all p = false := by
 rw [List.all_eq_false];exact ⟨l[i],List.getElem_mem hi,by simpa [List.getD_eq_getElem?_getD,List.getElem?_eq_getElem hi] using h⟩
def grM (M : List (List UInt8)) : Bool := decide (60 < M.length) || M.any fun t => decide (60 < t.length)
def shM (M : List (List UInt8)) : Bool := !(decide (24 < M.length) && decide (M.length < 42)) && !grM M && M.all fun t => decide (t.length≤40)
def smM (M : List (List UInt8)) : Bool := decide (M.length≤10) && shM M
theorem slice123 : SliceOf prog 123 22 1 := by unfold SliceOf;exact ⟨by kernel_rfl,by kernel_rfl⟩
theorem under123 : prog.underlying 123 = some (.slice 22) := by kernel_rfl
theorem plain22 : Plain prog 22 := by unfold Plain;exact ⟨by kernel_rfl,by kernel_rfl⟩
theorem info22' : (prog.info? 22).map (fun i => (i.zero,i.size)) = some (some (.slice none 0 0),1) := by kernel_rfl
theorem Great_ok (hv : IsVV w v LL) (hll : LL.length < 1000000000) : Ret prog 74 #[v] w (fun r _ => r = .bool (LL.any grM)) := by
 obtain ⟨pl,cl,rfl,hcl,hin⟩ := hv;have E0 : Ext w w := Ext.refl w;refine J0 35 func74 rfl (rj fun K => ag (rm [0] K ?_));refine zA (rj fun K => ag (rm [0,3] K ?_));refine zD (wpe_loop (X := Nat) (fun i ρ w' => Keep ρ [(0,.slice pl LL.length cl),(3,.int .i64 (i : Nat))]∧i≤LL.length∧(∀ j,j < i→grM (LL.getD j []) = false)∧Ext w w') (fun i => LL.length - i) 0 ⟨(kp rfl),Nat.zero_le _,fun j hj => absurd hj (Nat.not_lt_zero _),E0⟩ ?_);clear E0;rintro i ρ1 w1 ⟨hk,hil,hok,E0⟩;refine wpe_k _ hk ?_;clear hk ρ1;refine zA (rJ fun K => mv (K1 (zF slice123 rfl (K8 rfl (rm [0,3,8] K ?_)))));refine K0 rfl ?_ ?_ <;> intro hc
 · have hlt : i < LL.length := t_lt hc;clear hc;obtain ⟨a5,pu,cu,hp5,hb5,hv5,hM⟩ := hin i hlt;replace hM := hM.ext E0;generalize hMe : LL.getD i [] = M at hv5 hM;refine sk (zA (zD (zA (rJ fun K => mv (K1 (runs_indexAddrN slice123 hp5 rfl rfl hlt (K1 (runs_loadN plain22 rfl (cell_ext E0 hb5 hv5) (K1 (zF slice22 rfl (K8 rfl (rm [0,3,16] K ?_))))))))))));refine K0 rfl ?_ ?_ <;> intro hc
   · have hbig : 60 < M.length := by have := of_decide_eq_true hc;omega
     refine rj fun K => ag (rm [0,2,3] K ?_);refine zB (seqQ_r (blockQ_r (seqQ_r (loopQ_r (blockQ_r (seqQ_r (funQ_r ?_)))))));exact ⟨rfl,_,gives_tmp rfl rfl,E0,congrArg Value.bool (any_hit (p := grM) (d := []) hlt (by rw [hMe];unfold grM;rw [decide_eq_true hbig];rfl)).symm⟩
   · have hbig : M.length≤60 := by have := of_decide_eq_false hc;omega
     clear hc;refine sk (rj fun K => ag (rm [0,3,4] K ?_));refine zD ?_;have hM0 := hM;refine wpe_loop (X := Nat) (fun k ρ w' => Keep ρ [(0,.slice pl LL.length cl),(3,.int .i64 (i : Nat)),(4,.int .i64 (k : Nat))]∧k≤M.length∧(∀ j,j < k→(M.getD j []).length≤60)∧Ext w w'∧IsVs w' (.slice pu M.length cu) M) (fun k => M.length - k) 0 ⟨(kp rfl),Nat.zero_le _,fun j hj => absurd hj (Nat.not_lt_zero _),E0,hM⟩ ?_;clear E0 hM hM0;rintro k ρ1 w2 ⟨hk,hkl,hkk,E0,hM⟩;refine wpe_k _ hk ?_;clear hk ρ1;refine zA (rJ fun K => mv (mv (K1 (runs_indexAddrN slice123 hp5 rfl rfl hlt (K1 (runs_loadN plain22 rfl (cell_ext E0 hb5 hv5) (K1 (zF slice22 rfl (K8 rfl (rm [0,3,4,23] K ?_))))))))));refine K0 rfl ?_ ?_ <;> intro hc
     · have hklt : k < M.length := t_lt hc;clear hc;obtain ⟨pm,cm,hme,hcm,hmm⟩ := hM;cases hme;obtain ⟨a6,hp6,hb6,hv6⟩ := hmm k hklt;refine sk (zA (zD (rJ fun K => mv (K1 (runs_indexAddrN slice123 hp5 rfl rfl hlt (K1 (runs_loadN plain22 rfl (cell_ext E0 hb5 hv5) (mv (K1 (runs_indexAddrN slice22 hp6 rfl rfl hklt (K1 (runs_loadN plain52 rfl hv6 (K1 (runs_slen under52 rfl (K8 rfl (rm [0,3,4,34] K ?_))))))))))))))));refine K0 rfl ?_ ?_ <;> intro hc
       · have hgt : 60 < (M.getD k []).length := Int.ofNat_lt.1 (of_decide_eq_true hc);refine rj fun K => ag (rm [0,2,3,4] K ?_);refine zB (blockQ_r (seqQ_r (loopQ_r (blockQ_r (blockQ_r (seqQ_r (loopQ_r (blockQ_r (seqQ_r (funQ_r ?_))))))))));exact ⟨rfl,_,gives_tmp rfl rfl,E0,congrArg Value.bool (any_hit (p := grM) (d := []) hlt (by rw [hMe];unfold grM;rw [any_hit (d := []) hklt (decide_eq_true hgt),Bool.or_true])).symm⟩
       · have htl : (M.getD k []).length≤60 := Nat.le_of_not_lt fun h => of_decide_eq_false hc (Int.ofNat_lt.2 h);have hM : IsVs _ (.slice pu M.length cu) M := ⟨pu,cu,rfl,hcm,hmm⟩;refine wpe_skip (blockQ_n (zN (rI fun K => K8 rfl (ag (rl K (zO (⟨rfl,k + 1,⟨⟨rfl,rfl,rfl,rfl,rfl,congrArg (Value.int .i64) (wrap_succ (by omega)),trivial⟩,by omega,fun j hj => ?_,E0,hM⟩,by omega⟩)))))));rcases Nat.lt_succ_iff_lt_or_eq.1 hj with h | rfl
         · exact hkk j h
         · exact htl
     · have hkge := f_lt hc;obtain rfl : k = M.length := by omega
       clear hc;have hgood : grM M = false := by
        unfold grM;rw [decide_eq_false (by omega),Bool.false_or];exact any_miss (d := []) fun j hj => decide_eq_false (by have := hkk j hj;omega)
       refine wpe_exit (seqQ_x (loopQ_x (zL (blockQ_n (zN (rI fun K => K8 rfl (ag (rl K (zO (⟨rfl,i + 1,⟨⟨rfl,rfl,rfl,congrArg (Value.int .i64) (wrap_succ (by omega)),trivial⟩,by omega,fun j hj => ?_,E0⟩,by omega⟩))))))))));rcases Nat.lt_succ_iff_lt_or_eq.1 hj with h | rfl
       · exact hok j h
       · exact by rw [hMe];exact hgood
 · have hge := f_lt hc;obtain rfl : i = LL.length := by omega
   clear hc;refine wpe_exit (seqQ_x (loopQ_x (zL (zN (rj fun K => ag (rm [0,2,3] K ?_))))));exact zB (en rfl E0 (congrArg Value.bool (any_miss (d := []) hok).symm))
theorem shortL_ok (hv : IsVV w v LL) (hll : LL.length < 1000000000) : Ret prog 22 #[v] w (fun r _ => r = .bool (LL.all shM)) := by
 obtain ⟨pl,cl,rfl,hcl,hin⟩ := hv;have E0 : Ext w w := Ext.refl w;refine J0 51 func22 rfl (rj fun K => ag (rm [0] K ?_));refine zA (rj fun K => ag (rm [0,3] K ?_));refine zD (wpe_loop (X := Nat) (fun i ρ w' => Keep ρ [(0,.slice pl LL.length cl),(3,.int .i64 (i : Nat))]∧i≤LL.length∧(∀ j,j < i→shM (LL.getD j []) = true)∧Ext w w') (fun i => LL.length - i) 0 ⟨(kp rfl),Nat.zero_le _,fun j hj => absurd hj (Nat.not_lt_zero _),E0⟩ ?_);clear E0;rintro i ρ1 w1 ⟨hk,hil,hok,E0⟩;refine wpe_k _ hk ?_;clear hk ρ1;refine zA (rJ fun K => mv (K1 (zF slice123 rfl (K8 rfl (rm [0,3,8] K ?_)))));refine K0 rfl ?_ ?_ <;> intro hc
 · have hlt : i < LL.length := t_lt hc;clear hc;obtain ⟨a5,pu,cu,hp5,hb5,hv5,hM⟩ := hin i hlt;replace hM := hM.ext E0;generalize hMe : LL.getD i [] = M at hv5 hM;refine sk (zA (zD (wpe_mid (fun ρ w' => Keep ρ [(0,.slice pl LL.length cl),(3,.int .i64 (i : Nat))]∧Ext w w'∧IsVs w' (.slice pu M.length cu) M∧M.length≤60∧grM M = false∧(decide (24 < M.length) && decide (M.length < 42)) = false) ?_ ?_)))
   · refine zA ?_;rcases (show (24 < M.length∧M.length < 42)∨(24 < M.length∧¬ M.length < 42)∨¬ 24 < M.length from by omega) with ⟨h24,h42⟩ | ⟨h24,h42⟩ | h24
     · have hn : (decide (24 < M.length) && decide (M.length < 42)) = true := by rw [decide_eq_true h24,decide_eq_true h42];rfl
       refine rI fun K => mv (K1 (runs_indexAddrN slice123 hp5 rfl rfl hlt (K1 (runs_loadN plain22 rfl (cell_ext E0 hb5 hv5) (K1 (zF slice22 rfl (K9 true rfl (decide_eq_true (by omega)) (mv (K7 (K7 (K2 (runs_indexAddrN slice123 hp5 rfl rfl hlt (K2 (runs_loadN plain22 rfl (cell_ext E0 hb5 hv5) (K2 (zF slice22 rfl (K2 (zG (v := .bool true) rfl rfl (congrArg (fun z => some (Value.bool z)) (decide_eq_true (by omega))) (pk rfl ?_)))))))))))))))))));refine mv (K3 (K3 (K3 (K3 (K3 (K3 (pk rfl (rs [0,3,18,19,20,21,22,23,26,27,28,29,30,31,32] K ?_))))))));refine wct rfl (rj fun K => ag (rm [0,2,3] K ?_));refine zB (loopQ_r (blockQ_r (seqQ_r (loopQ_r (blockQ_r (seqQ_r (funQ_r ?_)))))));exact ⟨rfl,_,gives_tmp rfl rfl,E0,congrArg Value.bool (all_miss (p := shM) (d := []) hlt (by rw [hMe];unfold shM;rw [hn];rfl)).symm⟩
     · have hn : (decide (24 < M.length) && decide (M.length < 42)) = false := by rw [decide_eq_false h42,Bool.and_false]
       refine rI fun K => mv (K1 (runs_indexAddrN slice123 hp5 rfl rfl hlt (K1 (runs_loadN plain22 rfl (cell_ext E0 hb5 hv5) (K1 (zF slice22 rfl (K9 true rfl (decide_eq_true (by omega)) (mv (K7 (K7 (K2 (runs_indexAddrN slice123 hp5 rfl rfl hlt (K2 (runs_loadN plain22 rfl (cell_ext E0 hb5 hv5) (K2 (zF slice22 rfl (K2 (zG (v := .bool false) rfl rfl (congrArg (fun z => some (Value.bool z)) (decide_eq_false (by omega))) (pk rfl ?_)))))))))))))))))));refine mv (K7 (K7 (K2 (runs_indexAddrN slice123 hp5 rfl rfl hlt (K2 (runs_loadN plain22 rfl (cell_ext E0 hb5 hv5) ?_))))));refine K2 (runs_buildSlice (cs := [.slice pu M.length cu]) under123 info22' (by decide) (by decide) (by kernel_rfl) fun b7 w7 hb7 hE hB7 hs => ?_);replace E0 := E0.trans hE;replace hM := hM.ext hE;clear hE hb7 hs;refine K2 (j1 E0 hM.ext hb74 (Great_ok (IsVV.one hB7 rfl hM) (by simp)) fun vg w1 E0 hM hr => ?_);obtain rfl := hr.trans (congrArg Value.bool (Bool.or_false _));refine pk rfl (rs [0,3,18,19,20,21,22,23,26,27,28,29,30,31,32] K ?_);refine K0 rfl ?_ ?_ <;> intro hc
       · have hgr : grM M = true := hc;refine rj fun K => ag (rm [0,2,3] K ?_);refine zB (loopQ_r (blockQ_r (seqQ_r (loopQ_r (blockQ_r (seqQ_r (funQ_r ?_)))))));exact ⟨rfl,_,gives_tmp rfl rfl,E0,congrArg Value.bool (all_miss (p := shM) (d := []) hlt (by rw [hMe];unfold shM;rw [hgr];simp)).symm⟩
       · have hgr : grM M = false := hc;clear hc;have hbig : M.length≤60 := by
          rcases Nat.lt_or_ge 60 M.length with h | h
          · unfold grM at hgr;rw [decide_eq_true h] at hgr;cases hgr
          · exact h
         exact wpe_skip (zO ⟨rfl,(kp rfl),E0,hM,hbig,hgr,hn⟩)
     · have hn : (decide (24 < M.length) && decide (M.length < 42)) = false := by rw [decide_eq_false h24];rfl
       refine rI fun K => mv (K1 (runs_indexAddrN slice123 hp5 rfl rfl hlt (K1 (runs_loadN plain22 rfl (cell_ext E0 hb5 hv5) (K1 (zF slice22 rfl (K9 false rfl (decide_eq_false (by omega)) (mv (K3 (K3 (K3 (K3 (K3 (K3 (pk rfl ?_)))))))))))))));refine mv (K7 (K7 (K2 (runs_indexAddrN slice123 hp5 rfl rfl hlt (K2 (runs_loadN plain22 rfl (cell_ext E0 hb5 hv5) ?_))))));refine K2 (runs_buildSlice (cs := [.slice pu M.length cu]) under123 info22' (by decide) (by decide) (by kernel_rfl) fun b7 w7 hb7 hE hB7 hs => ?_);replace E0 := E0.trans hE;replace hM := hM.ext hE;clear hE hb7 hs;refine K2 (j1 E0 hM.ext hb74 (Great_ok (IsVV.one hB7 rfl hM) (by simp)) fun vg w1 E0 hM hr => ?_);obtain rfl := hr.trans (congrArg Value.bool (Bool.or_false _));refine pk rfl (rs [0,3,18,19,20,21,22,23,26,27,28,29,30,31,32] K ?_);refine K0 rfl ?_ ?_ <;> intro hc
       · have hgr : grM M = true := hc;refine rj fun K => ag (rm [0,2,3] K ?_);refine zB (loopQ_r (blockQ_r (seqQ_r (loopQ_r (blockQ_r (seqQ_r (funQ_r ?_)))))));exact ⟨rfl,_,gives_tmp rfl rfl,E0,congrArg Value.bool (all_miss (p := shM) (d := []) hlt (by rw [hMe];unfold shM;rw [hgr];simp)).symm⟩
       · have hgr : grM M = false := hc;clear hc;have hbig : M.length≤60 := by
          rcases Nat.lt_or_ge 60 M.length with h | h
          · unfold grM at hgr;rw [decide_eq_true h] at hgr;cases hgr
          · exact h
         exact wpe_skip (zO ⟨rfl,(kp rfl),E0,hM,hbig,hgr,hn⟩)
   · clear E0 hM;rintro ρ1 w3 ⟨hk,E0,hM,hbig,hgr,hn⟩;refine wpe_k _ hk ?_;clear hk ρ1;refine rj fun K => ag (rm [0,3,4] K ?_);refine zD ?_;have hM0 := hM;refine wpe_loop (X := Nat) (fun k ρ w' => Keep ρ [(0,.slice pl LL.length cl),(3,.int .i64 (i : Nat)),(4,.int .i64 (k : Nat))]∧k≤M.length∧(∀ j,j < k→(M.getD j []).length≤40)∧Ext w w'∧IsVs w' (.slice pu M.length cu) M) (fun k => M.length - k) 0 ⟨(kp rfl),Nat.zero_le _,fun j hj => absurd hj (Nat.not_lt_zero _),E0,hM⟩ ?_;clear E0 hM hM0;rintro k ρ1 w2 ⟨hk,hkl,hkk,E0,hM⟩;refine wpe_k _ hk ?_;clear hk ρ1;refine zA (rJ fun K => mv (mv (K1 (runs_indexAddrN slice123 hp5 rfl rfl hlt (K1 (runs_loadN plain22 rfl (cell_ext E0 hb5 hv5) (K1 (zF slice22 rfl (K8 rfl (rm [0,3,4,39] K ?_))))))))));refine K0 rfl ?_ ?_ <;> intro hc
     · have hklt : k < M.length := t_lt hc;clear hc;obtain ⟨pm,cm,hme,hcm,hmm⟩ := hM;cases hme;obtain ⟨a6,hp6,hb6,hv6⟩ := hmm k hklt;refine sk (zA (zD (rJ fun K => mv (K1 (runs_indexAddrN slice123 hp5 rfl rfl hlt (K1 (runs_loadN plain22 rfl (cell_ext E0 hb5 hv5) (mv (K1 (runs_indexAddrN slice22 hp6 rfl rfl hklt (K1 (runs_loadN plain52 rfl hv6 (K1 (runs_slen under52 rfl (K8 rfl (rm [0,3,4,50] K ?_))))))))))))))));refine K0 rfl ?_ ?_ <;> intro hc
       · have hgt : 40 < (M.getD k []).length := Int.ofNat_lt.1 (of_decide_eq_true hc);refine rj fun K => ag (rm [0,2,3,4] K ?_);refine zB (blockQ_r (seqQ_r (loopQ_r (blockQ_r (blockQ_r (seqQ_r (loopQ_r (blockQ_r (seqQ_r (funQ_r ?_))))))))));exact ⟨rfl,_,gives_tmp rfl rfl,E0,congrArg Value.bool (all_miss (p := shM) (d := []) hlt (by rw [hMe];unfold shM;rw [all_miss (d := []) hklt (decide_eq_false (by omega)),Bool.and_false])).symm⟩
       · have htl : (M.getD k []).length≤40 := Nat.le_of_not_lt fun h => of_decide_eq_false hc (Int.ofNat_lt.2 h);have hM : IsVs _ (.slice pu M.length cu) M := ⟨pu,cu,rfl,hcm,hmm⟩;refine wpe_skip (blockQ_n (zN (rI fun K => K8 rfl (ag (rl K (zO (⟨rfl,k + 1,⟨⟨rfl,rfl,rfl,rfl,rfl,congrArg (Value.int .i64) (wrap_succ (by omega)),trivial⟩,by omega,fun j hj => ?_,E0,hM⟩,by omega⟩)))))));rcases Nat.lt_succ_iff_lt_or_eq.1 hj with h | rfl
         · exact hkk j h
         · exact htl
     · have hkge := f_lt hc;obtain rfl : k = M.length := by omega
       clear hc;have hgood : shM M = true := by
        unfold shM;rw [hn,hgr,Bool.not_false,Bool.and_self,Bool.true_and];exact all_hit (d := []) fun j hj => decide_eq_true (hkk j hj)
       refine wpe_exit (seqQ_x (loopQ_x (zL (blockQ_n (zN (rI fun K => K8 rfl (ag (rl K (zO (⟨rfl,i + 1,⟨⟨rfl,rfl,rfl,congrArg (Value.int .i64) (wrap_succ (by omega)),trivial⟩,by omega,fun j hj => ?_,E0⟩,by omega⟩))))))))));rcases Nat.lt_succ_iff_lt_or_eq.1 hj with h | rfl
       · exact hok j h
       · exact by rw [hMe];exact hgood
 · have hge := f_lt hc;obtain rfl : i = LL.length := by omega
   clear hc;refine wpe_exit (seqQ_x (loopQ_x (zL (zN (rj fun K => ag (rm [0,2,3] K ?_))))));exact zB (en rfl E0 (congrArg Value.bool (all_hit (d := []) hok).symm))
theorem smallL_ok (hv : IsVV w v LL) (hll : LL.length < 1000000000) : Ret prog 13 #[v] w (fun r _ => r = .bool (LL.all smM)) := by
 obtain ⟨pl,cl,rfl,hcl,hin⟩ := hv;have E0 : Ext w w := Ext.refl w;refine J0 25 func13 rfl (rj fun K => ag (rm [0] K ?_));refine zA (rj fun K => ag (rm [0,3] K ?_));refine zD (wpe_loop (X := Nat) (fun i ρ w' => Keep ρ [(0,.slice pl LL.length cl),(3,.int .i64 (i : Nat))]∧i≤LL.length∧(∀ j,j < i→smM (LL.getD j []) = true)∧Ext w w') (fun i => LL.length - i) 0 ⟨(kp rfl),Nat.zero_le _,fun j hj => absurd hj (Nat.not_lt_zero _),E0⟩ ?_);clear E0;rintro i ρ1 w1 ⟨hk,hil,hok,E0⟩;refine wpe_k _ hk ?_;clear hk ρ1;refine zA (rJ fun K => mv (K1 (zF slice123 rfl (K8 rfl (rm [0,3,7] K ?_)))));refine K0 rfl ?_ ?_ <;> intro hc
 · have hlt : i < LL.length := t_lt hc;clear hc;obtain ⟨a5,pu,cu,hp5,hb5,hv5,hM⟩ := hin i hlt;replace hM := hM.ext E0;generalize hMe : LL.getD i [] = M at hv5 hM;refine sk (zA (zD (zA ?_)));by_cases h10 : 10 < M.length
   · skip
     refine rI fun K => mv (K1 (runs_indexAddrN slice123 hp5 rfl rfl hlt (K1 (runs_loadN plain22 rfl (cell_ext E0 hb5 hv5) (K1 (zF slice22 rfl (K9 true rfl (decide_eq_true (by omega)) (mv (K3 (K3 (K3 (K3 (K3 (K3 (K3 ?_)))))))))))))));refine pk rfl (rs [0,3,17,18,19,20,21,22,23,24] K ?_);refine wct rfl (rj fun K => ag (rm [0,2,3] K ?_));refine zB (blockQ_r (seqQ_r (loopQ_r (blockQ_r (seqQ_r (funQ_r ?_))))));exact ⟨rfl,_,gives_tmp rfl rfl,E0,congrArg Value.bool (all_miss (p := smM) (d := []) hlt (by rw [hMe];unfold smM;rw [decide_eq_false (by omega)];rfl)).symm⟩
   · skip
     refine rI fun K => mv (K1 (runs_indexAddrN slice123 hp5 rfl rfl hlt (K1 (runs_loadN plain22 rfl (cell_ext E0 hb5 hv5) (K1 (zF slice22 rfl (K9 false rfl (decide_eq_false (by omega)) (mv (K7 (K7 (K2 (runs_indexAddrN slice123 hp5 rfl rfl hlt (K2 (runs_loadN plain22 rfl (cell_ext E0 hb5 hv5) ?_))))))))))))));refine K2 (runs_buildSlice (cs := [.slice pu M.length cu]) under123 info22' (by decide) (by decide) (by kernel_rfl) fun b7 w7 hb7 hE hB7 hs => ?_);replace E0 := E0.trans hE;replace hM := hM.ext hE;clear hE hb7 hs;refine K2 (j1 E0 hM.ext hb22 (shortL_ok (IsVV.one hB7 rfl hM) (by simp)) fun vg w1 E0 hM hr => ?_);obtain rfl := hr.trans (congrArg Value.bool (Bool.and_true _));refine K2 (runs_not rfl (pk rfl (rs [0,3,17,18,19,20,21,22,23,24] K ?_)));refine K0 rfl ?_ ?_ <;> intro hc
     · have hsh : shM M = false := by cases hs : shM M with | false => rfl | true => rw [hs] at hc;cases hc
       refine rj fun K => ag (rm [0,2,3] K ?_);refine zB (blockQ_r (seqQ_r (loopQ_r (blockQ_r (seqQ_r (funQ_r ?_))))));exact ⟨rfl,_,gives_tmp rfl rfl,E0,congrArg Value.bool (all_miss (p := smM) (d := []) hlt (by rw [hMe];unfold smM;rw [hsh,Bool.and_false])).symm⟩
     · have hsh : shM M = true := by cases hs : shM M with | true => rfl | false => rw [hs] at hc;cases hc
       clear hc;have hgood : smM M = true := by unfold smM;rw [decide_eq_true (by omega),hsh];rfl
       refine wpe_skip (blockQ_n (zN (rI fun K => K8 rfl (ag (rl K (zO (⟨rfl,i + 1,⟨⟨rfl,rfl,rfl,congrArg (Value.int .i64) (wrap_succ (by omega)),trivial⟩,by omega,fun j hj => ?_,E0⟩,by omega⟩)))))));rcases Nat.lt_succ_iff_lt_or_eq.1 hj with h | rfl
       · exact hok j h
       · exact by rw [hMe];exact hgood
 · have hge := f_lt hc;obtain rfl : i = LL.length := by omega
   clear hc;refine wpe_exit (seqQ_x (loopQ_x (zL (zN (rj fun K => ag (rm [0,2,3] K ?_))))));exact zB (en rfl E0 (congrArg Value.bool (all_hit (d := []) hok).symm))
theorem hurwitz_ok {R : Int × Int × Int} (hp : IsPoly w v p) (h : routh p = some R) : Ret prog 20 #[v] w (fun r _ => r = .bool (hurS R)) := by
 refine J0 22 func20 rfl (rj fun K => ag (rm [0] K ?_));refine rJ fun K => K1 (j0 E0 hb72 (Routh_ok hp h) fun vr w1 E0 hr => ?_);obtain ⟨rfl,-,-⟩ := hr;refine mv (xt rfl (xt rfl (xt rfl (ag (ag (ag (rm [3,4,5] K ?_)))))));refine zA ?_;rcases (show R.2.2≠0∨(R.2.2 = 0∧R.1≠0)∨(R.2.2 = 0∧R.1 = 0∧R.2.1≠0)∨(R.2.2 = 0∧R.1 = 0∧R.2.1 = 0) from by omega) with h1 | ⟨h1,h2⟩ | ⟨h1,h2,h3⟩ | ⟨h1,h2,h3⟩
 · skip
   refine rI fun K => K9 false rfl (beq_eq_false_iff_ne.2 h1) (mv (K3 (K3 (pk rfl (mv (K3 (K3 (pk rfl (ag (rs [2] K ?_))))))))));exact zB (en rfl E0 (congrArg Value.bool (decide_eq_false (fun h => h1 h.1)).symm))
 · skip
   refine rI fun K => K9 true rfl (beq_iff_eq.2 h1) (mv (K7 (K2 (zG (v := .bool false) rfl rfl (congrArg (fun z => some (Value.bool z)) (beq_eq_false_iff_ne.2 h2)) (pk rfl (mv (K3 (K3 (pk rfl (ag (rs [2] K ?_)))))))))));exact zB (en rfl E0 (congrArg Value.bool (decide_eq_false (fun h => h2 h.2.1)).symm))
 · skip
   refine rI fun K => K9 true rfl (beq_iff_eq.2 h1) (mv (K7 (K2 (zG (v := .bool true) rfl rfl (congrArg (fun z => some (Value.bool z)) (beq_iff_eq.2 h2)) (pk rfl (mv (K7 (K2 (zG (v := .bool false) rfl rfl (congrArg (fun z => some (Value.bool z)) (beq_eq_false_iff_ne.2 h3)) (pk rfl (ag (rs [2] K ?_))))))))))));exact zB (en rfl E0 (congrArg Value.bool (decide_eq_false (fun h => h3 h.2.2)).symm))
 · skip
   refine rI fun K => K9 true rfl (beq_iff_eq.2 h1) (mv (K7 (K2 (zG (v := .bool true) rfl rfl (congrArg (fun z => some (Value.bool z)) (beq_iff_eq.2 h2)) (pk rfl (mv (K7 (K2 (zG (v := .bool true) rfl rfl (congrArg (fun z => some (Value.bool z)) (beq_iff_eq.2 h3)) (pk rfl (ag (rs [2] K ?_))))))))))));exact zB (funQ_r (⟨rfl,_,gives_tmp rfl rfl,E0,congrArg Value.bool (decide_eq_true ⟨h1,h2,h3⟩).symm⟩))
end Go.Proofs.YtjiendlfobjanaaGreatDoor
namespace Go.Proofs.YtjiendlfobjanaaGreatDoor
open Go Go.RowKit Go.Proofs Tryz Go.Shelf Go.Sort
variable {b c i k : Nat} {cs : List Value} {q : Rat} {w : World}
def revRen : Go.Shelf.Ren := ⟨fun | 35 => 98 | n => n,fun | 22 => 25 | 23 => 37 | 0 => 0 | 3 => 3 | 4 => 4 | n => n,fun n => n⟩
theorem revLays : SlLaysE0.n35 prog revRen := {
 mixed := by kernel_rfl
 f35 := ⟨Tryz.f98.name,by kernel_rfl,func98.trans (congrArg some (by kernel_rfl))⟩
 t0 := Tryz.underlying0
 a0 := Tryz.isAgg0
 z0 := Tryz.sizeOf0
 v0 := Tryz.zeroValue0
 t3 := Tryz.underlying3
 a3 := Tryz.isAgg3
 z3 := Tryz.sizeOf3
 v3 := Tryz.zeroValue3
 t4 := Tryz.underlying4
 a4 := Tryz.isAgg4
 z4 := Tryz.sizeOf4
 v4 := Tryz.zeroValue4
 t22 := Tryz.underlying25
 a22 := Tryz.isAgg25
 z22 := Tryz.sizeOf25
 v22 := Tryz.zeroValue25 }
abbrev C3 := Bool × (Option Addr × Nat × Nat) × (Option Addr × Nat × Nat)
def enc3 (x : C3) : List Value := [.bool x.1,.slice x.2.1.1 x.2.1.2.1 x.2.1.2.2,.slice x.2.2.1 x.2.2.2.1 x.2.2.2.2]
theorem num_enc {l : List Value} (h : IsNum w (.agg l.toArray) q) : ∃ x,l = enc3 x := by
 obtain ⟨n,d,e,⟨p,ds,c,rfl,_⟩,⟨p',ds',c',rfl,_⟩⟩ := h;refine ⟨(decide (q < 0),(p,ds.length,c),(p',ds'.length,c')),?_⟩;have h1 := Value.agg.inj e;exact congrArg Array.toList h1
theorem take3_get (hk : k < 3) (hl : 3 * i + 3≤cs.length) : ((cs.drop (3 * i)).take 3)[k]? = cs[3 * i + k]? := by
 rw [List.getElem?_take,if_pos hk,List.getElem?_drop]
theorem Rev_ok {l : Poly} (hB : PBlk w b l) (hl : l.length≤4096) : CallK prog 98 #[.slice (some ⟨b,0,none⟩) l.length c] w (fun _ w' => Upd b w w'∧PBlk w' b l.reverse) := by
 obtain ⟨cs,h1,h2,h3⟩ := hB;have hx : ∀ i : Fin l.length,∃ x,(cs.drop (3 * i.1)).take 3 = enc3 x := fun i => num_enc (h3 i.1 i.2);obtain ⟨d,hd,hdi⟩ : ∃ d : Array C3,d.size = l.length∧∀ i,(h : i < l.length)→(cs.drop (3 * i)).take 3 = enc3 d[i]! := by
  refine ⟨Array.ofFn fun i => Classical.choose (hx i),by simp,fun i h => ?_⟩;rw [getElem!_pos _ i (by simpa using h),Array.getElem_ofFn];exact Classical.choose_spec (hx ⟨i,h⟩)
 have hcell : ∀ i k,i < l.length→k < 3→cs[3 * i + k]? = some (enc3 d[i]!)[k]! := fun i k hi hk => by
  rw [← take3_get hk (by omega),hdi i hi,getElem!_pos _ k (by exact hk),List.getElem?_eq_getElem (by exact hk)]
 have hH : HoldsK enc3 3 w b 0 d := fun j hj => by
  rw [size_flatK,hd] at hj;rw [get_flatK _ _ _ _ (by rw [hd];exact hj),Nat.zero_add];refine ⟨?_,?_⟩
  · rw [Blk.cell h1];have := hcell (j / 3) (j % 3) (by omega) (by omega);rw [show 3 * (j / 3) + j % 3 = j by omega] at this;exact this
  · unfold World.frozen?;rw [show w.heap[(⟨b,j,none⟩ : Addr).block]? = _ from h1];simp
 have hc := AnyQ.slices_Reverse revLays 3 Tryz.isAgg37 Tryz.sizeOf37 enc3 (fun _ => rfl) (fun x v hv => by
  unfold enc3 at hv;simp only [List.mem_cons,List.not_mem_nil,or_false] at hv;rcases hv with rfl | rfl | rfl <;> rfl) b 0 c d w hH (by omega)
 rw [hd] at hc;refine Calls.mono hc ?_;rintro e w' ⟨rfl,n,rfl⟩;refine ⟨_,rfl,?_⟩;have hb : w.heap[b]? = some (.cells ⟨cs⟩ 37 (0,0)) := h1;have hheap : ∀ k,(putRowK enc3 3 (Go.Sort.ahead w n) b 0 d.reverse).heap[k]? = if b = k then (w.heap[k]?).map (onCells (putCells id 0 (flatK enc3 3 d.reverse))) else w.heap[k]? := fun k => by
  show (w.heap.modify b _)[k]? = _;rw [Array.getElem?_modify]
 have hB' : Blk (putRowK enc3 3 (Go.Sort.ahead w n) b 0 d.reverse) b 37 (putCells id 0 (flatK enc3 3 d.reverse) ⟨cs⟩).toList := by
  show _ = _;rw [hheap,if_pos rfl,hb];rfl
 have hU : Upd b w (putRowK enc3 3 (Go.Sort.ahead w n) b 0 d.reverse) := ⟨rfl,rfl,rfl,by show (w.heap.modify b _).size = _;simp,fun k hk => by rw [hheap,if_neg (Ne.symm hk)],fun T cs' hk => by
  obtain ⟨rfl,rfl⟩ := h1.inj hk;exact ⟨_,hB'⟩⟩
 refine ⟨hU,_,hB',?_,fun i hi => ?_⟩
 · rw [List.length_reverse];simp [putCells,h2]
 · rw [List.length_reverse] at hi;have e : (((putCells id 0 (flatK enc3 3 d.reverse) ⟨cs⟩).toList.drop (3 * i)).take 3) = (cs.drop (3 * (l.length - 1 - i))).take 3 := by
    have hlen : (putCells id 0 (flatK enc3 3 d.reverse) ⟨cs⟩).toList.length = cs.length := by simp [putCells]
    refine List.ext_getElem? fun k => ?_;by_cases hk : k < 3
    · rw [take3_get hk (by rw [hlen];omega),take3_get hk (by omega),hcell _ k (by omega) hk];have : (putCells id 0 (flatK enc3 3 d.reverse) ⟨cs⟩).toList[3 * i + k]? = some (flatK enc3 3 d.reverse)[3 * i + k]! := by
       rw [Array.getElem?_toList];unfold putCells;rw [Array.getElem?_mapIdx];have hh : ((⟨cs⟩ : Array Value)[3 * i + k]?).isSome := by simp;omega
       obtain ⟨z,hz⟩ := Option.isSome_iff_exists.1 hh;rw [hz,Option.map_some,if_pos ⟨Nat.zero_le _,by rw [size_flatK,Array.size_reverse,hd];omega⟩];rfl
      rw [this,get_flatK _ _ _ _ (by rw [Array.size_reverse,hd];omega),show (3 * i + k) / 3 = i by omega,show (3 * i + k) % 3 = k by omega];rw [getElem!_pos d.reverse i (by rw [Array.size_reverse,hd];exact hi),Array.getElem_reverse,getElem!_pos d (l.length - 1 - i) (by omega)];simp only [hd]
    · rw [List.getElem?_eq_none (by simp;omega),List.getElem?_eq_none (by simp;omega)]
   rw [e];have := (h3 (l.length - 1 - i) (by omega)).upd hU h1 (by decide);have e2 : l.reverse.getD i 0 = l.getD (l.length - 1 - i) 0 := by
    rw [List.getD_eq_getElem?_getD,List.getD_eq_getElem?_getD,List.getElem?_reverse hi]
   rw [e2];exact this
end Go.Proofs.YtjiendlfobjanaaGreatDoor
namespace Go.Proofs.YtjiendlfobjanaaGreatDoor
variable {B a b : Nat} {p : Poly} {s : Bool}
theorem qOf_small (hb : b≠0) (ha : a < B) (hb1 : b < B) : (qOf s a b).num.natAbs < B∧(qOf s a b).den < B := by
 rw [qOf_num hb,qOf_den hb];exact ⟨Nat.lt_of_le_of_lt (Nat.div_le_self _ _) ha,Nat.lt_of_le_of_lt (Nat.div_le_self _ _) hb1⟩
theorem natS_small {l : List UInt8} (h : l.length≤40) (hd : l.all isDig = true) : natS l < 10 ^ 40 :=
 Nat.lt_of_lt_of_le (natS_lt _ l rfl hd) (Nat.pow_le_pow_right (by decide) h)
theorem parse_small {l : List UInt8} (h : l.length≤40) : (parseS l).1.num.natAbs < 10 ^ 40∧(parseS l).1.den < 10 ^ 40 := by
 have h0 : ((0 : Rat)).num.natAbs < 10 ^ 40∧((0 : Rat)).den < 10 ^ 40 := by decide
 have hu := unsigned_len l;obtain ⟨h1,h2⟩ := cutAt_len 47 (zM l);rw [parseS_eq];split
 · exact h0
 · rename_i c1;split
   · exact h0
   · rename_i c2;split
     · exact h0
     · have hp : plainS (cutAt 47 (zM l)).1 = true := by
        cases hp : plainS (cutAt 47 (zM l)).1 with
        | true => rfl
        | false => rw [hp] at c1;simp at c1
       have n1 := natS_small (show (cutAt 47 (zM l)).1.length≤40 by omega) (plain_dig hp);split
       · exact qOf_small (by decide) n1 (by decide)
       · rename_i c4;have ht : (cutAt 47 (zM l)).2.2 = true := by
          cases ht : (cutAt 47 (zM l)).2.2 with
          | true => rfl
          | false => rw [ht] at c4;simp at c4
         have hq : plainS (cutAt 47 (zM l)).2.1 = true∧((cutAt 47 (zM l)).2.1 == [48]) = false := by
          rw [ht] at c2;cases hq : plainS (cutAt 47 (zM l)).2.1 <;> cases hz : ((cutAt 47 (zM l)).2.1 == [48]) <;> simp [hq,hz] at c2 ⊢
         split
         · exact h0
         · exact qOf_small (plain_nat hq.1 hq.2).1 n1 (natS_small (by omega) (plain_dig hq.1))
theorem ch_list {B : Nat} (hB : 1≤B) : ∀ p : Poly,(∀ q,q∈p→q.num.natAbs≤B∧q.den≤B)→∃ D : Int,D≠0∧D.natAbs≤B ^ p.length∧∀ k,∃ z : Int,co p k * D = z∧z.natAbs≤B ^ p.length
 | [],_ => ⟨1,by decide,by simp,fun k => ⟨0,by rw [co_nil];simp,by simp⟩⟩
 | x :: p,h => by
  obtain ⟨D,d1,d2,d3⟩ := ch_list hB p fun q hq => h q (List.mem_cons_of_mem _ hq);obtain ⟨x1,x2⟩ := h x (List.mem_cons_self ..);have hx0 : (x.den : Int)≠0 := by have := x.den_nz;omega
  have hxe : x * (x.den : Rat) = (x.num : Rat) := by
   have e1 : (x.num : Rat) / (x.den : Rat) = x := by rw [← Rat.mkRat_eq_div];exact Rat.mkRat_self x
   have e2 : (x.den : Rat)≠0 := by exact_mod_cast x.den_nz
   grind
  refine ⟨x.den * D,Int.mul_ne_zero hx0 d1,?_,fun k => ?_⟩
  · rw [Int.natAbs_mul,List.length_cons,Nat.pow_succ,Nat.mul_comm];exact Nat.mul_le_mul d2 (by simpa using x2)
  · cases k with
    | zero =>
     refine ⟨x.num * D,?_,?_⟩
     · rw [co_cons0,Rat.intCast_mul,Rat.intCast_mul,← hxe,← Rat.mul_assoc];rfl
     · rw [Int.natAbs_mul,List.length_cons,Nat.pow_succ,Nat.mul_comm];exact Nat.mul_le_mul d2 x1
    | succ k =>
     obtain ⟨z,z1,z2⟩ := d3 k;refine ⟨x.den * z,?_,?_⟩
     · rw [co_consS,Rat.intCast_mul,Rat.intCast_mul,← z1];grind
     · rw [Int.natAbs_mul,List.length_cons,Nat.pow_succ,Nat.mul_comm];exact Nat.mul_le_mul z2 (by simpa using x2)
theorem ch_small (m : Nat) (hl : p.length≤m) (h : ∀ q,q∈p→q.num.natAbs < 10 ^ 40∧q.den < 10 ^ 40) : CH (133 * m + 1) p := by
 have h40 : 10 ^ 40≤2 ^ 133 := by decide
 obtain ⟨D,d1,d2,d3⟩ := ch_list (B := 2 ^ 133) (by decide) p fun q hq => by
  obtain ⟨a,b⟩ := h q hq;omega
 have hp : (2 ^ 133) ^ p.length≤2 ^ (133 * m) := by
  rw [← Nat.pow_mul];exact Nat.pow_le_pow_right (by decide) (Nat.mul_le_mul_left _ hl)
 refine ⟨D,d1,?_,fun k => ?_⟩
 · rw [Nat.pow_succ,Nat.mul_comm (2 ^ (133 * m))];exact Nat.mul_le_mul_left 2 (Nat.le_trans d2 hp)
 · obtain ⟨z,z1,z2⟩ := d3 k;exact ⟨z,z1,by rw [Nat.pow_succ,Nat.mul_comm (2 ^ (133 * m))];exact Nat.mul_le_mul_left 2 (Nat.le_trans z2 hp)⟩
theorem CH.of_co {P Q : Poly} (h : CH a P) (e : ∀ k,co Q k = co P k) : CH a Q := let ⟨D,h⟩ := h;⟨D,h.of_co e⟩
theorem CH.part {P Q : Poly} (h : CH a P) (e : ∀ k,co Q k = co P k∨co Q k = 0) : CH a Q := by
 obtain ⟨D,h1,h2,h3⟩ := h;refine ⟨D,h1,h2,fun k => ?_⟩;rcases e k with e | e
 · rw [e];exact h3 k
 · exact ⟨0,by rw [e,Rat.zero_mul];rfl,by simp⟩
theorem co_mapIdx0 {f : Nat→Rat→Rat} (hf : ∀ k,f k 0 = 0) (k : Nat) : co (p.mapIdx f) k = f k (co p k) := by
 unfold co;rw [List.getD_eq_getElem?_getD,List.getD_eq_getElem?_getD,List.getElem?_mapIdx];cases p[k]? with
 | none => simp [hf]
 | some x => rfl
variable {L : List (List UInt8)} {k n : Nat}
def high (p : Poly) : Poly × Int := if 41 < (trim p).length then ([],3) else if trim p = [] then ([],8) else (trim (trim p).reverse,0)
def denL (w : Rat) : Poly→Rat→Option Poly
 | [],_ => some []
 | c :: p,f => (rdiv c f).bind fun x => (rmul f w).bind fun g => (denL w p g).bind fun r => some (x :: r)
def denorm (p : Poly) (w : Rat) : Option (Poly × Int) := if 41 < (trim p).length then some ([],3) else if 0 < w then (denL w (trim p) 1).map fun l => (l,0) else some ([],7)
theorem asked_0 (hp : Trimd p) (hn : p.length = n + 1) (hl : n < 41) : asked p = 0 := by
 unfold asked;rw [trim_of hp,if_neg (by omega),if_neg (fun e => by rw [e] at hn;cases hn)]
theorem hur_form {A : Nat} (hp : Trimd p) (hn : p.length = n + 1) (hl : n + 1≤10) (hA1 : 1≤A) (hA : A≤5000) (h : CH A p) : ∃ R,routh p = some R∧(hurS R = true↔∃ H,HF n (Nof (co p)) H∧PD n H) := by
 have h0 : p≠[] := fun e => by rw [e] at hn;cases hn
 obtain ⟨r,hr⟩ := routh_ex hp h0 (by omega) hA1 hA h;have hcA : ∀ k,co (fracA p) k = co p k∨co (fracA p) k = 0 := fun k => by
  unfold fracA;rw [co_mapIdx0 (fun k => by split <;> rfl)];split
  · exact .inl rfl
  · exact .inr rfl
 have hcB : ∀ k,co (fracB p) k = co p k∨co (fracB p) k = 0 := fun k => by
  unfold fracB;rw [co_trim,co_mapIdx0 (fun k => by split <;> rfl)];split
  · exact .inr rfl
  · exact .inl rfl
 have P := pr_start hp hn;have hg : grow 10 = 3363 := by decide
 obtain ⟨F,hF,-⟩ := fracL_ex (T := 10) (A := A) (by rw [hg];omega) (n := n) (i := 0) P.da P.db P.la (by omega) (by omega) ((h.part hcA).le (by show A≤1 * A;omega)) ((h.part hcB).le (by show A≤grow 1 * A;have := Nat.mul_le_mul_right A (grow_pos 1);omega));obtain ⟨k1,k2⟩ := hurwitz_iff (F := F) hp h0 (by rw [hn,Nat.add_sub_cancel];exact hF) hr;refine ⟨(r.1,r.2,0),by unfold routh;rw [asked_0 hp hn (by omega),hr];rfl,?_⟩;rw [← pos_iff hp hn hF];unfold hurS;rw [decide_eq_true_eq];constructor
 · rintro ⟨-,a,b⟩;refine Classical.byContradiction fun hn => ?_;have := k2 hn;simp only at a b;omega
 · intro hpos;rw [k1 hpos];exact ⟨rfl,rfl,rfl⟩
theorem co_reverse {x : Poly} (hn : x.length = n + 1) (i : Nat) : co x.reverse i = if i≤n then co x (n - i) else 0 := by
 by_cases hi : i≤n
 · rw [if_pos hi];unfold co;rw [List.getD_eq_getElem?_getD,List.getD_eq_getElem?_getD,List.getElem?_reverse (by omega),hn];rfl
 · rw [if_neg hi,co_ge (by simp;omega)]
theorem rev_trimd {x : Poly} (hn : x.length = n + 1) (h0 : co x 0≠0) : Trimd x.reverse := fun m hm => by
 have : m = n := by simp at hm;omega
 subst this;rw [co_reverse hn,if_pos (Nat.le_refl _),Nat.sub_self];exact h0
theorem high_law {x : Poly} (hx : Trimd x) (hn : x.length = n + 1) (h0 : co x 0≠0) (hl : n + 1≤10) : high x = (x.reverse,0)∧high x.reverse = (x,0) := by
 have hr := rev_trimd hn h0;have hx0 : x≠[] := fun e => by rw [e] at hn;cases hn
 constructor
 · unfold high;rw [trim_of hx,if_neg (by omega),if_neg hx0,trim_of hr]
 · unfold high;rw [trim_of hr,if_neg (by simp;omega),if_neg (by simpa using hx0),List.reverse_reverse,trim_of hx]
theorem ch_rev {x : Poly} {A : Nat} (hn : x.length = n + 1) (h : CH A x) : CH A x.reverse := by
 obtain ⟨D,h1,h2,h3⟩ := h;refine ⟨D,h1,h2,fun k => ?_⟩;rw [co_reverse hn];split
 · exact h3 _
 · exact ⟨0,by rw [Rat.zero_mul];rfl,by simp⟩
theorem rmul_pow (x y : Rat) : ∀ n : Nat,(x * y) ^ n = x ^ n * y ^ n
 | 0 => by rw [Rat.pow_zero,Rat.pow_zero,Rat.pow_zero,Rat.mul_one]
 | n + 1 => by rw [Rat.pow_succ,rmul_pow x y n,Rat.pow_succ,Rat.pow_succ];grind
def Qt (a : Nat) (w : Rat) : Prop := ∃ D z : Int,D≠0∧w * D = z∧D.natAbs≤2 ^ a∧z.natAbs≤2 ^ a
theorem ipow_le {x : Int} (h : x.natAbs≤2 ^ a) (k : Nat) : (x ^ k).natAbs≤2 ^ (a * k) := by
 rw [Int.natAbs_pow,Nat.pow_mul];exact Nat.pow_le_pow_left h k
theorem qt_pow {w : Rat} (h : Qt a w) (k : Nat) : Qt (a * k) (w ^ k) := by
 obtain ⟨D,z,h1,h2,h3,h4⟩ := h;refine ⟨D ^ k,z ^ k,Int.pow_ne_zero h1,?_,ipow_le h3 k,ipow_le h4 k⟩;rw [Rat.intCast_pow,Rat.intCast_pow,← rmul_pow,h2]
theorem qt_sz {w : Rat} (h : Qt a w) : sz w≤2 * (a + 1) := by
 obtain ⟨D,z,h1,h2,h3,h4⟩ := h;exact sz_of h1 h2 (by rw [Nat.pow_succ];omega) (by rw [Nat.pow_succ];omega)
theorem qt_mono {w : Rat} (h : Qt a w) (hab : a≤b) : Qt b w := by
 obtain ⟨D,z,h1,h2,h3,h4⟩ := h;have := Nat.pow_le_pow_right (show 0 < 2 by decide) hab;exact ⟨D,z,h1,h2,by omega,by omega⟩
theorem qt_inv {w : Rat} (hw : w≠0) (h : Qt a w) : Qt a (1 / w) := by
 obtain ⟨D,z,h1,h2,h3,h4⟩ := h;have hD := ne_cast h1;have hz : (z : Rat)≠0 := by rw [← h2];intro e;rcases Rat.mul_eq_zero.1 e with e | e <;> contradiction
 exact ⟨z,D,fun e => hz (by rw [e];rfl),by rw [← h2];grind,h4,h3⟩
theorem qt_parse {l : List UInt8} (h : l.length≤40) : Qt 133 (parseS l).1 := by
 obtain ⟨h1,h2⟩ := parse_small h;have h40 : 10 ^ 40≤2 ^ 133 := by decide
 generalize (parseS l).1 = x at *;refine ⟨x.den,x.num,by have := x.den_nz;omega,?_,by simp;omega,by omega⟩;have e1 : (x.num : Rat) / (x.den : Rat) = x := by rw [← Rat.mkRat_eq_div];exact Rat.mkRat_self x
 have e2 : (x.den : Rat)≠0 := by exact_mod_cast x.den_nz
 show x * ((x.den : Nat) : Rat) = _;grind
theorem inv_pow {w : Rat} (hw : w≠0) (k : Nat) : (1 / w) ^ k * w ^ k = 1 := by
 rw [← rmul_pow,show 1 / w * w = 1 by grind]
 induction k with
 | zero => rfl
 | succ k ih => rw [Rat.pow_succ,ih,Rat.mul_one]
theorem pow_ne {w : Rat} (hw : w≠0) (k : Nat) : w ^ k≠0 := fun e => by
 have := inv_pow hw k;rw [e] at this;grind
theorem denL_ex {w : Rat} {U V : Nat} (hw : w≠0) (hUV : U + V < 1099511627776) (hVV : V + V < 1099511627776) (hV : ∀ k,k≤11→sz (w ^ k)≤V) : ∀ {p : Poly} {j : Nat},(∀ k,sz (co p k)≤U)→j + p.length≤11 →
 ∃ r,denL w p (w ^ j) = some r∧r.length = p.length∧∀ k,co r k = co p k * (1 / w) ^ (j + k)
 | [],j,_,_ => ⟨[],rfl,rfl,fun k => by rw [co_nil,Rat.zero_mul]⟩
 | c :: p,j,hU,hj => by
  simp only [List.length_cons] at hj;have h1 : rdiv c (w ^ j) = some (c / w ^ j) := hrdiv_some (by have a := hU 0;have b := hV j (by omega);rw [co_cons0] at a;omega);have h2 : rmul (w ^ j) w = some (w ^ (j + 1)) := by
   rw [rmul_some' (by have a := hV j (by omega);have b := hV 1 (by omega);rw [Rat.pow_one] at b;omega),Rat.pow_succ]
  obtain ⟨r,hr,hrl,hrc⟩ := denL_ex hw hUV hVV hV (p := p) (j := j + 1) (fun k => by have := hU (k + 1);rw [co_consS] at this;exact this) (by omega);refine ⟨c / w ^ j :: r,?_,by simp [hrl],fun k => ?_⟩
  · unfold denL;rw [h1];show ((rmul (w ^ j) w).bind _) = _;rw [h2];show ((denL w p (w ^ (j + 1))).bind _) = _;rw [hr];rfl
  · cases k with
    | zero =>
     rw [co_cons0,co_cons0,Nat.add_zero];have e1 := inv_pow hw j;have e2 := pow_ne hw j;grind
    | succ k => rw [co_consS,co_consS,hrc,show j + 1 + k = j + (k + 1) by omega]
theorem ch_scale {x d : Poly} {u : Rat} {A : Nat} (hl : x.length≤10) (hu : Qt a u) (hd : ∀ k,co d k = co x k * u ^ k) (h : CH A x) : CH (A + a * 9) d := by
 obtain ⟨D,h1,h2,h3⟩ := h;obtain ⟨E,z0,e1,e2,e3,e4⟩ := hu;have hb : ∀ {m n : Nat},2 * m≤2 ^ A→n≤2 ^ (a * 9)→2 * (m * n)≤2 ^ (A + a * 9) := fun {m n} hm hn => by
  rw [Nat.pow_add,← Nat.mul_assoc];exact Nat.mul_le_mul hm hn
 refine ⟨D * E ^ 9,Int.mul_ne_zero h1 (Int.pow_ne_zero e1),by rw [Int.natAbs_mul];exact hb h2 (ipow_le e3 9),fun k => ?_⟩;by_cases hk : k≤9
 · obtain ⟨z,z1,z2⟩ := h3 k;refine ⟨z * (z0 ^ k * E ^ (9 - k)),?_,?_⟩
   · rw [hd,Rat.intCast_mul,Rat.intCast_mul,Rat.intCast_mul,← z1,Rat.intCast_pow,Rat.intCast_pow,Rat.intCast_pow,← e2,rmul_pow];have : (E : Rat) ^ 9 = (E : Rat) ^ k * (E : Rat) ^ (9 - k) := by rw [← rpow_add];congr 1;omega
     rw [this];grind
   · rw [Int.natAbs_mul];refine hb z2 ?_;rw [Int.natAbs_mul,show a * 9 = a * k + a * (9 - k) by rw [← Nat.mul_add];congr 1;omega,Nat.pow_add];exact Nat.mul_le_mul (ipow_le e4 k) (ipow_le e3 (9 - k))
 · exact ⟨0,by rw [hd,co_ge (by omega),Rat.zero_mul,Rat.zero_mul];rfl,by simp⟩
theorem denorm_law {x : Poly} {w : Rat} {U : Nat} (hx : Trimd x) (hn : x.length = n + 1) (hl : n + 1≤10) (hw : 0 < w) (hq : Qt 133 w) (hU : ∀ k,sz (co x k)≤U) (hUl : U < 100000000000) :
 ∃ d,denorm x w = some (d,0)∧d.length = n + 1∧Trimd d∧∀ k,co d k = co x k * (1 / w) ^ k := by
 have hne : w≠0 := by grind
 obtain ⟨d,h1,h2,h3⟩ := denL_ex (w := w) (U := U) (V := 2930) hne (by omega) (by omega) (fun k hk => by
  have := qt_sz (qt_mono (qt_pow hq k) (Nat.mul_le_mul_left 133 hk));omega) (p := x) (j := 0) hU (by omega)
 refine ⟨d,?_,by omega,fun m hm => ?_,fun k => by rw [h3,Nat.zero_add]⟩
 · unfold denorm;rw [trim_of hx,if_neg (by omega),if_pos hw];rw [Rat.pow_zero] at h1;rw [h1];rfl
 · have : m = n := by omega
   subst this;rw [h3,Nat.zero_add];intro e;rcases Rat.mul_eq_zero.1 e with e | e
   · exact hx _ hn e
   · exact pow_ne (w := 1 / w) (by grind) _ e
def famOk (o : Option Poly) (k : Nat) : Bool := match o with | some l => l.length == k + 1 && (routh l == some (0,0,0)) | none => false
theorem bess_fam : ∀ k,k < 9→famOk (bessel k) k = true := by decide +kernel
theorem bino_fam : ∀ k,k < 9→famOk (binomial k) k = true := by decide +kernel
theorem fam_of {o : Option Poly} (h : famOk o k = true) : ∃ l,o = some l∧l.length = k + 1∧routh l = some (0,0,0) := by
 cases o with
 | none => cases h
 | some l =>
  unfold famOk at h;simp only [Bool.and_eq_true,beq_iff_eq] at h;exact ⟨l,rfl,h.1,h.2⟩
theorem shifts_law {t : List UInt8} (hL : smM L = true) (ht : t.length≤40) :
 trim (numsS L) = []∨(∃ n,(trim (numsS L)).length = n + 1∧n + 1≤10∧(∀ k,sz (co (trim (numsS L)) k)≤2662)∧(co (trim (numsS L)) 0 = 0∨(co (trim (numsS L)) 0≠0 ∧
  ∃ (R R1 : Int × Int × Int),high (trim (numsS L)) = ((trim (numsS L)).reverse,0)∧high (trim (numsS L)).reverse = (trim (numsS L),0)∧routh (trim (numsS L)) = some R∧routh (trim (numsS L)).reverse = some R1∧hurS R1 = hurS R ∧
  (¬ 0 < (parseS t).1→denorm (trim (numsS L)) (parseS t).1 = some ([],7)) ∧
  (0 < (parseS t).1→∃ (d : Poly) (R2 : Int × Int × Int),denorm (trim (numsS L)) (parseS t).1 = some (d,0)∧rdiv 1 (parseS t).1 = some (1 / (parseS t).1)∧denorm d (1 / (parseS t).1) = some (trim (numsS L),0)∧routh d = some R2∧hurS R2 = hurS R)))) := by
 have hq := qt_parse ht;generalize (parseS t).1 = w at *;unfold smM at hL;simp only [Bool.and_eq_true,decide_eq_true_eq] at hL;obtain ⟨h10,hsh⟩ := hL;unfold shM at hsh;simp only [Bool.and_eq_true,List.all_eq_true,decide_eq_true_eq] at hsh;have h40 := hsh.2;have hnl : (numsS L).length = L.length := by simp [numsS]
 have hch : CH 1331 (numsS L) := ch_small 10 (by omega) fun q hq => by
  obtain ⟨t,ht,rfl⟩ := List.mem_map.1 hq;exact parse_small (h40 t ht)
 generalize numsS L = p at *;have htl := trim_length_le p;have hct : CH 1331 (trim p) := hch.of_co (co_trim p);have hx := trim_trimd p;generalize trim p = x at *;by_cases hx0 : x = []
 · exact .inl hx0
 · obtain ⟨n,hn⟩ : ∃ n,x.length = n + 1 := ⟨x.length - 1,by have := ne_nil_len hx0;omega⟩;refine .inr ⟨n,hn,by omega,fun k => hct.sz k,?_⟩;by_cases h0 : co x 0 = 0
   · exact .inl h0
   · obtain ⟨g1,g2⟩ := high_law hx hn h0 (by omega);obtain ⟨R,r1,r2⟩ := hur_form hx hn (by omega) (by decide) (by decide) hct;obtain ⟨R1,s1,s2⟩ := hur_form (rev_trimd hn h0) (n := n) (by simp;omega) (by omega) (by decide) (by decide) (ch_rev hn hct);refine .inr ⟨h0,R,R1,g1,g2,r1,s1,?_,fun hw => ?_,fun hw => ?_⟩
     · rw [Bool.eq_iff_iff,r2,s2];constructor
       · refine fun h => form_rev (fun i => ?_) h;by_cases hi : i≤n
         · rw [if_pos hi,co_reverse hn,if_pos (by omega)];congr 1;omega
         · rw [if_neg hi,co_ge (by omega)]
       · exact fun h => form_rev (co_reverse hn) h
     · unfold denorm;rw [trim_of hx,if_neg (by omega),if_neg hw]
     · have hne : w≠0 := by grind
       obtain ⟨d,d1,d2,d3,d4⟩ := denorm_law hx hn (by omega) hw hq (U := 2662) (fun k => hct.sz k) (by decide);have hcd : CH (1331 + 133 * 9) d := ch_scale (by omega) (qt_inv hne hq) d4 hct;obtain ⟨R2,t1,t2⟩ := hur_form d3 d2 (by omega) (by decide) (by decide) hcd;have hw1 : 0 < 1 / w := by
        refine Classical.byContradiction fun h => ?_;have := Rat.mul_nonneg (show 0 ≤ -(1 / w) by grind) (Rat.le_of_lt hw);grind
       obtain ⟨b,b1,b2,b3,b4⟩ := denorm_law d3 d2 (by omega) hw1 (qt_inv hne hq) (U := 2 * (1331 + 133 * 9)) (fun k => hcd.sz k) (by decide);have hbx : b = x := co_ext (by omega) fun k => by
        rw [b4,d4,show 1 / (1 / w) = w by grind,Rat.mul_assoc,inv_pow hne,Rat.mul_one]
       refine ⟨d,R2,d1,hrdiv_some (by have := qt_sz hq;rw [sz_one];omega),hbx ▸ b1,t1,?_⟩;rw [Bool.eq_iff_iff,t2,r2];constructor
       · refine fun h => form_scale hw (fun i => ?_) h;rw [d4,Rat.mul_assoc,inv_pow hne,Rat.mul_one]
       · exact fun h => form_scale hw1 d4 h
end Go.Proofs.YtjiendlfobjanaaGreatDoor
namespace Go.Proofs.YtjiendlfobjanaaGreatDoor
open Go Go.RowKit Go.Proofs Tryz
set_option maxRecDepth 10000
set_option maxHeartbeats 2000000
attribute [local irreducible] Runs WPE CallK Ret
variable {K' : Value→World→Prop} {P : Program} {args : Array Value} {cv v : Value} {f : FuncId} {i : Nat} {p : Poly} {w : World} {x : Rat}
theorem CallK.imp {K : Value→World→Prop} (h : CallK P f args w K) (hk : ∀ v w',K v w'→K' v w') : CallK P f args w K' := by
 unfold CallK at *;exact Calls.mono h fun _ _ ⟨v,e,q⟩ => ⟨v,e,hk v _ q⟩
theorem High_ok (hp : IsPoly w v p) : Ret prog 35 #[v] w (fun r w' => ∃ u,r = .tuple #[u,.int .i64 (high p).2]∧IsOwn w.heap.size w' u (high p).1) := by
 have E0 : Ext w w := Ext.refl w;refine J0 15 func35 rfl (rj fun K => ag (ag (rm [0] K ?_)));refine zA (rJ fun K => K1 (j1 E0 hp.ext hb79 (flong_ok hp) fun vi w2 E0 hp hr => ?_));subst hr;refine rm [0,5] K ?_;refine K0 rfl ?_ ?_ <;> intro hc
 · have h41 : 41 < (trim p).length := of_decide_eq_true hc;clear hc;rw [show high p = ([],3) from by unfold high;rw [if_pos h41]];refine rj fun K => ag (ag (rm [2,3] K ?_));exact zB (seqQ_r (funQ_r ⟨rfl,_,gives_tmp2 rfl rfl rfl,E0,_,rfl,IsOwn.nil⟩))
 · have h41 : ¬ 41 < (trim p).length := of_decide_eq_false hc;clear hc;refine sk (rj fun K => mv ?_);have hsz := E0.size;refine K1 (j0 E0 hb34 (Trim_ok hp) fun v7 w2 E0 N7 => ?_);obtain ⟨tp,tc,rfl,htc,hTR,htl,hto⟩ := N7;refine ag (rm [0] K ?_);refine zA (rJ fun K => K1 (zF slice25 rfl (K8 rfl (rm [0,10] K ?_))));refine K0 rfl ?_ ?_ <;> intro hc
   · have h0 : trim p = [] := List.eq_nil_of_length_eq_zero (by have := eq_of_beq hc;omega);clear hc;rw [show high p = ([],8) from by unfold high;rw [if_neg h41,if_pos h0]];refine rj fun K => ag (ag (rm [2,3] K ?_));exact zB (seqQ_r (funQ_r ⟨rfl,_,gives_tmp2 rfl rfl rfl,E0,_,rfl,IsOwn.nil⟩))
   · have h0 : trim p≠[] := fun e => by rw [e] at hc;cases hc
     clear hc;rw [show high p = (trim (trim p).reverse,0) from by unfold high;rw [if_neg h41,if_neg h0]];refine sk (zA ?_);obtain ⟨tb,rfl,hgt⟩ := hto h0;have hge : w.heap.size≤tb := Nat.le_trans hsz hgt;have hTB := hTR.blk h0;clear hTR hgt;refine rI fun K => K1 (zI hb98 (CallK.imp (Rev_ok hTB htl) fun vr w2 hr => ?_) rfl);obtain ⟨hU,hTB⟩ := hr;replace E0 := E0.upd hU hge;clear hU;have hTP : IsPoly w2 (.slice (some ⟨tb,0,none⟩) (trim p).length tc) (trim p).reverse := ⟨_,tc,by rw [List.length_reverse],by rw [List.length_reverse];exact htc,hTB.rd,by rw [List.length_reverse];exact htl⟩;clear hTB hsz;have hsz := E0.size;refine rs [0] K ?_;refine rJ fun K => K1 (j0 E0 hb34 (Trim_ok hTP) fun v14 w2 E0 N14 => ag (ag (rm [2,3] K ?_)));exact zB (funQ_r ⟨rfl,_,gives_tmp2 rfl rfl rfl,E0,_,rfl,N14.sz hsz⟩)
theorem rsign_le (x : Rat) : rsign x≤0↔¬ 0 < x := by
 by_cases h0 : x = 0
 · subst h0;decide
 · rcases rsign_cases h0 with ⟨h1,h2⟩ | ⟨h1,h2⟩
   · rw [h2];exact ⟨fun e => by omega,fun e => absurd h1 e⟩
   · rw [h2];exact ⟨fun _ => by grind,fun _ => by decide⟩
theorem above1_ok (hx : IsNum w v x) : Ret prog 190 #[v] w (fun r _ => r = .bool (decide (¬ 0 < x))) := by
 have hx0 := hx;obtain ⟨xn,xd,rfl,hxn,hxd⟩ := hx0;refine J0 6 func190 rfl (rj fun K => ?_);refine K1 (runs_box fun b1 w1 hb hE hB1 hs => ?_);have hgb1 : w.heap.size≤b1 := by rw [hb];exact E0.size
 replace E0 := E0.trans hE;replace hx := hx.ext hE;clear hE hs hb;refine ag (rm [1] K ?_);refine zA ?_;have hNX : NumAt b1 x _ := ⟨_,hB1,rfl,hx⟩;refine K6 fun K => K1 (runs_numAt rfl hNX fun v3 N3 => K1 (j0 E0 hb19 (Sign_ok N3) fun vi w2 E0 hr => ?_));subst hr;refine K8 rfl (ag (rs [2] K ?_));exact zB (en rfl E0 (congrArg Value.bool (decide_eq_decide.2 (by rw [rsign_le]))))
theorem drop_consP0 {l : Poly} (h : i < l.length) : l.drop i = l.getD i 0 :: l.drop (i + 1) := by
 rw [List.drop_eq_getElem_cons h];simp [h]
theorem IndexN_ok {c : Poly} {pr : Rat→Bool} (hc : IsPoly w cv c) (hf : HasBody prog f) (hsig : ∀ i,i < c.length→∀ (w' : World) (v : Value),Ext w w'→IsNum w' v (c.getD i 0)→Ret prog f #[v] w' (fun u _ => u = .bool (pr (c.getD i 0)))) : Ret prog 265 #[cv,.func (.func f) #[] #[]] w (fun u _ => u = .int .i64 (idxL pr c 0)) := by
 obtain ⟨cp,cc,rfl,hcc,hC,hcl⟩ := hc;have E0 : Ext w w := Ext.refl w;refine J0 19 func265 rfl (rj fun K => ag (rm [0,1] K ?_));refine zA (rJ fun K => K1 (zF slice25 rfl (mv (rm [0,1,7,8] K ?_))));refine zD (wpe_loop (X := Nat) (fun i ρ w' => Keep ρ [(0,.slice cp c.length cc),(1,.func (.func f) #[] #[]),(7,.int .i64 (c.length : Nat)),(8,.int .i64 (i : Nat))]∧i≤c.length∧Ext w w'∧idxL pr (c.drop i) i = idxL pr c 0) (fun i => c.length - i) 0 ⟨(kp rfl),Nat.zero_le _,E0,rfl⟩ ?_);clear E0;rintro i ρ1 w1 ⟨hk,hil,E0,hI⟩;refine wpe_k _ hk ?_;clear hk ρ1;refine rj fun K => K8 rfl (rm [0,1,7,8,9] K ?_);refine zA ?_;refine K0 rfl ?_ ?_ <;> intro hc
 · have hlt : i < c.length := t_lt hc;clear hc;have hC1 := hC.ext E0;rw [drop_consP0 (by omega),idxL] at hI;refine sk (zA (zD (rJ fun K => ag (rm [0,1,5,7,8] K ?_))));refine rJ fun K => mv (mv (K1 (runs_pindex (l := c) hC1 rfl rfl hlt (K1 (runs_pload hC1 hlt rfl fun v15 N15 => K1 (runs_callV rfl hf (CallK.of_ret (hsig i hlt _ v15 E0 N15) fun v19 w2 hE hr => ?_)))))));subst hr;replace E0 := E0.trans hE;clear hE N15 hC1;refine rm [0,1,5,7,8,16] K ?_;refine K0 rfl ?_ ?_ <;> intro hc
   · have hcc2 : pr (c.getD i 0) = true := hc;clear hc;rw [if_pos hcc2] at hI;refine rJ fun K => ag (rm [0,1,4,7,8] K ?_);refine zB (blockQ_r (seqQ_r (loopQ_r (blockQ_r (seqQ_r (funQ_r ?_))))));exact ⟨rfl,_,gives_tmp rfl rfl,E0,by rw [← hI];rfl⟩
   · have hcc2 : pr (c.getD i 0) = false := hc;clear hc;rw [if_neg (by rw [hcc2];decide)] at hI;exact wpe_skip (blockQ_n (zN (K6 fun K => K8 rfl (mv (rl K (zO (⟨rfl,i + 1,⟨⟨rfl,rfl,rfl,rfl,rfl,rfl,rfl,congrArg (Value.int .i64) (wrap_succ (by omega)),trivial⟩,by omega,E0,hI⟩,by omega⟩)))))))
 · have hge := f_lt hc;obtain rfl : i = c.length := by omega
   clear hc;rw [List.drop_eq_nil_of_le (by omega),idxL] at hI;refine wpe_exit (seqQ_x (loopQ_x (zL (zN (rj fun K => ag (rm [0,1,4,7,8] K ?_))))));refine zB (funQ_r ?_);exact ⟨rfl,_,gives_tmp rfl rfl,E0,by rw [← hI];rfl⟩
theorem ContainsN_ok {c : Poly} {pr : Rat→Bool} (hc : IsPoly w cv c) (hf : HasBody prog f) (hsig : ∀ i,i < c.length→∀ (w' : World) (v : Value),Ext w w'→IsNum w' v (c.getD i 0)→Ret prog f #[v] w' (fun u _ => u = .bool (pr (c.getD i 0)))) : Ret prog 189 #[cv,.func (.func f) #[] #[]] w (fun u _ => u = .bool (c.any pr)) := by
 refine J0 9 func189 rfl (rj fun K => ag (rm [0,1] K ?_));refine rJ fun K => mv (K1 (j0 E0 hb265 (IndexN_ok hc hf hsig) fun vi w2 E0 hr => ?_));subst hr;refine K8 rfl (ag (rm [4] K ?_));refine zB (funQ_r ?_);exact ⟨rfl,_,gives_tmp rfl rfl,E0,congrArg Value.bool (by
  rcases @idxL_bound _ pr c 0 with ⟨e1,e2⟩ | ⟨e1,e2,e3⟩
  · rw [e2];exact decide_eq_false (by omega)
  · rw [e3];exact decide_eq_true (by omega))⟩
theorem above_ok (hp : IsPoly w v p) : Ret prog 99 #[v] w (fun u _ => u = .bool (!(p.any fun x => decide (¬ 0 < x)))) := by
 refine J0 6 func99 rfl (rj fun K => ag (rm [0] K ?_));refine rJ fun K => K1 (j0 E0 hb189 (ContainsN_ok (pr := fun x => decide (¬ 0 < x)) hp hb190 fun i hi w2 v hE hv => above1_ok hv) fun vi w2 E0 hr => ?_);subst hr;refine K1 (runs_not rfl (ag (rm [2] K ?_)));exact zB (en rfl E0 rfl)
variable {u : Value}
theorem Denorm_ok {R : Poly × Int} (hp : IsPoly w v p) (hx : IsNum w u x) (h0 : trim p≠[]) (h : denorm p x = some R) : Ret prog 36 #[v,u] w (fun r w' => ∃ t,r = .tuple #[t,.int .i64 R.2]∧IsOwn w.heap.size w' t R.1) := by
 obtain ⟨xn,xd,rfl,hxn,hxd⟩ := hx;have hx : IsNum w (.agg #[.bool (decide (x < 0)),xn,xd]) x := ⟨_,_,rfl,hxn,hxd⟩;clear hxn hxd;have E0 : Ext w w := Ext.refl w;refine J0 38 func36 rfl (rj fun K => ?_);refine K1 (runs_box fun b1 w1 hb hE hB1 hs => ?_);have hgb1 : w.heap.size≤b1 := by rw [hb];exact E0.size
 replace E0 := E0.trans hE;replace hp := hp.ext hE;replace hx := hx.ext hE;clear hE hs hb;refine ag (ag (rm [0,3] K ?_));refine zA (zD (zA ?_));have hNX : NumAt b1 x _ := ⟨_,hB1,rfl,hx⟩;clear hB1 hx;refine rI fun K => K1 (j2 E0 hp.ext hNX.ext hb79 (flong_ok hp) fun vi w2 E0 hp hNX hr => ?_);subst hr;refine ag (rs [0,3,8] K ?_);refine K0 rfl ?_ ?_ <;> intro hc
 · have h41 : 41 < (trim p).length := of_decide_eq_true hc;clear hc;obtain rfl : R = ([],3) := by unfold denorm at h;rw [if_pos h41] at h;exact (Option.some.inj h).symm
   refine rj fun K => ag (ag (rm [0,3,4,5] K ?_));exact zB (blockQ_r (seqQ_r (funQ_r ⟨rfl,_,gives_tmp2 rfl rfl rfl,E0,_,rfl,IsOwn.nil⟩)))
 · have h41 : ¬ 41 < (trim p).length := of_decide_eq_false hc;clear hc;refine rj fun K => K1 (runs_numAt rfl hNX fun v12 N12 => ?_);obtain ⟨n12,d12,rfl,hn12,hd12⟩ := N12;have N12 : IsNum _ (.agg #[.bool (decide (x < 0)),n12,d12]) x := ⟨_,_,rfl,hn12,hd12⟩;clear hn12 hd12;refine K1 (runs_buildSlice (cs := [.bool (decide (x < 0)),n12,d12]) under25 info37' (by decide) (by decide) (by kernel_rfl) fun sb w10 hb hE hBb hs => ?_);replace E0 := E0.trans hE;replace hp := hp.ext hE;replace hNX := hNX.ext hE;replace N12 := N12.ext hE;clear hE hb hs;have hS : IsPoly _ (.slice (some ⟨sb,0,none⟩) 1 1) [x] := ⟨_,1,rfl,Nat.le_refl _,.inr ⟨sb,0,_,rfl,hBb,by simp,fun i hi => by
    obtain rfl : i = 0 := by simp at hi;omega
    exact N12⟩,by simp⟩
   clear hBb N12;refine K1 (j2 E0 hp.ext hNX.ext hb99 (above_ok hS) fun vi w2 E0 hp hNX hr => ?_);subst hr;clear hS;refine K1 (runs_not rfl (ag (rm [0,3,11] K ?_)));refine K0 rfl ?_ ?_ <;> intro hc
   · have hx0 : ¬ 0 < x := by simpa using hc
     clear hc;obtain rfl : R = ([],7) := by unfold denorm at h;rw [if_neg h41,if_neg hx0] at h;exact (Option.some.inj h).symm
     refine rj fun K => ag (ag (rm [0,3,4,5] K ?_));exact zB (blockQ_r (seqQ_r (funQ_r ⟨rfl,_,gives_tmp2 rfl rfl rfl,E0,_,rfl,IsOwn.nil⟩)))
   · have hx0 : 0 < x := by simpa using hc
     clear hc;unfold denorm at h;rw [if_neg h41,if_pos hx0] at h;obtain ⟨Rl,hden,rfl⟩ := map_some h;clear h;refine wpe_skip (blockQ_n (zN (rj fun K => mv ?_)));have hsz := E0.size;have hlt := hNX.lt;refine K1 (j1 E0 hNX.ext hb34 (Trim_ok hp) fun v17 w2 E0 hNX N17 => ?_);generalize trim p = T at h0 h41 hden N17;obtain ⟨tp,tc,rfl,htc,hTR,htl,hto⟩ := N17;obtain ⟨tb,rfl,hgt⟩ := hto h0;have hne0 : b1≠tb := by omega
     replace hgt : w.heap.size≤tb := Nat.le_trans hsz hgt;have hTB := hTR.blk h0;clear hTR hto hsz hlt hp;refine ag (rm [0,3] K ?_);refine rj fun K => K1 (j2 E0 hNX.ext hTB.ext hb100 (fone_ok) fun v18 w2 E0 hNX hTB N18 => ?_);have hlt := hTB.lt;have hlt1 := hNX.lt;refine K1 (runs_alloc zero37 fun fb w2 hb hE hBf hs => ?_);have hgf : w.heap.size≤fb := by rw [hb];exact E0.size
     have hne1 : tb≠fb := by omega
     have hne2 : b1≠fb := by omega
     replace E0 := E0.trans hE;replace hTB := hTB.ext hE;replace hNX := hNX.ext hE;replace N18 := N18.ext hE;clear hE hb hs hlt hlt1;refine K1 (zK rfl N18 (Cell3.of hBf rfl) fun _ w9 hU hF => ?_);replace E0 := E0.upd hU hgf;replace hTB := hTB.upd hU hBf hne1;replace hNX := hNX.upd hU hBf hne2;clear hU hBf N18;refine rm [0,3,6] K ?_;refine zA (rJ fun K => K1 (zF slice25 rfl (mv (rm [0,3,6,20,21] K ?_))));refine zD (wpe_loop (X := Nat) (fun i ρ w' => ∃ L f r,Keep ρ [(0,.slice (some ⟨tb,0,none⟩) T.length tc),(3,.pointer (some ⟨b1,0,none⟩)),(6,.pointer (some ⟨fb,0,none⟩)),(20,.int .i64 (T.length : Nat)),(21,.int .i64 (i : Nat))]∧i≤T.length∧L.length = T.length∧Ext w w'∧PBlk w' tb L∧NumAt fb f w'∧NumAt b1 x w'∧denL x (L.drop i) f = some r∧L.take i ++ r = Rl) (fun i => T.length - i) 0 ⟨T,1,Rl,(kp rfl),Nat.zero_le _,rfl,E0,hTB,hF,hNX,hden,rfl⟩ ?_);clear E0 hTB hF hNX hden;rintro i ρ1 w1 ⟨L,f,r,hk,hil,hLl,E0,hTB,hF,hNX,hden,hR⟩;refine wpe_k _ hk ?_;clear hk ρ1;refine rj fun K => K8 rfl (rm [0,3,6,20,21,22] K ?_);refine zA ?_;refine K0 rfl ?_ ?_ <;> intro hc
     · have hlt : i < T.length := t_lt hc;clear hc;rw [drop_consP0 (by omega)] at hden;unfold denL at hden;obtain ⟨q,hq,hden⟩ := bind_some hden;obtain ⟨g,hg,hden⟩ := bind_some hden;obtain ⟨r2,hr2,hden⟩ := bind_some hden;obtain rfl := Option.some.inj hden;clear hden;obtain ⟨hr1,hqe⟩ := rdiv_some hq;obtain ⟨hr3,hge⟩ := rmul_some hg;clear hq hg;have hLR := hTB.rd;have hL0 := hLl;refine sk (zA (zD (rJ fun K => ag (rm [0,3,6,7,20,21] K ?_))))
       refine wpe_tailN 11 [([(0,none)],none),([(7,none)],none),([(0,none)],none),([(7,none)],none),([(26,some 1),(27,some 0)],none),([(28,some 0)],none),([(6,none)],none),([(29,some 1),(30,some 0)],none),([(6,none)],none),([(3,none)],none),([(32,some 1),(33,some 0)],none)] mixed (by kernel_rfl) (by kernel_rfl) (by kernel_rfl) (by kernel_rfl) (by kernel_rfl) fun K hK => dvp (fun σ wx hE hk => zC ⟨Ext.refl _,hk.1⟩) (dvp (fun σ wx hE hk => zC ⟨Ext.refl _,hk.1⟩) (dvp (fun σ wx hE hk => zC ⟨Ext.refl _,hk.1⟩) (dvp (fun σ wx hE hk => zC ⟨Ext.refl _,hk.1⟩) (dcp (fun v _ => v = .pointer (some ⟨tb,3 * i,none⟩)) (fun _ _ _ _ _ h => h) (fun σ wx hE hk => runs_pix hk.1 hk.2.1 hlt ⟨Ext.refl _,rfl⟩) (dcp (fun v w' => IsNum w' v (L.getD i 0)) (fun _ _ _ _ hx h => h.ext hx.toExt) (fun σ wx hE hk => runs_pload (l := L) (i := i) (hLR.ext hE) (by omega) (hk.1.trans (by simp [addr_add])) fun v h => ⟨Ext.refl _,h⟩) (dcp (fun v w' => IsNum w' v f) (fun _ _ _ _ hx h => h.ext hx.toExt) (fun σ wx hE hk => runs_numAt hk.1 (hF.ext hE) fun v h => ⟨Ext.refl _,h⟩) ?_))))));refine dcp (fun v w' => IsNum w' v q) (fun _ _ _ _ hx h => h.ext hx.toExt) (fun σ wx hE hk => zI hb69 (CallK.of_ret (fover_ok hk.1 hk.2.1 hr1) fun v w2 hX hr => ⟨hX,(by rw [hqe];exact hr)⟩) rfl) ?_
       refine dcp (fun v w' => IsNum w' v f) (fun _ _ _ _ hx h => h.ext hx.toExt) (fun σ wx hE hk => runs_numAt hk.1 (hF.ext hE) fun v h => ⟨Ext.refl _,h⟩) (dcp (fun v w' => IsNum w' v x) (fun _ _ _ _ hx h => h.ext hx.toExt) (fun σ wx hE hk => runs_numAt hk.1 (hNX.ext hE) fun v h => ⟨Ext.refl _,h⟩) ?_);refine dcp (fun v w' => IsNum w' v g) (fun _ _ _ _ hx h => h.ext hx.toExt) (fun σ wx hE hk => zI hb101 (CallK.of_ret (Mul_ok hk.1 hk.2.1 hr3) fun v w2 hX hr => ⟨hX,(by rw [hge];exact hr)⟩) rfl) ?_;refine dp_nil (hK _ fun wq hE => ?_);rintro _ rfl _ rfl _ rfl _ rfl v28 N28 v29 N29 v30 N30 v31 N31 v32 N32 v33 N33 v34 N34;refine forAll_nil ?_;replace E0 := E0.trans hE;replace hTB := hTB.ext hE;replace hF := hF.ext hE;replace hNX := hNX.ext hE;clear hE;refine K1 (runs_pix (ix := i) rfl rfl hlt (K1 (runs_pstore (k := i) rfl rfl N31 hTB (by omega) fun _ w9 hU hTB2 => ?_)));obtain ⟨tcs,hTc,-⟩ := hTB;replace E0 := E0.upd hU hgt;replace hF := hF.upd hU hTc (Ne.symm hne1);replace hNX := hNX.upd hU hTc hne0;replace N34 := N34.upd hU hTc (by decide);have hTB := hTB2;clear hTB2 hTc hU tcs hLR;refine K1 (zK rfl N34 hF.cell fun _ w9 hU hF2 => ?_);obtain ⟨fcs,hFc,-⟩ := hF;replace E0 := E0.upd hU hgf;replace hTB := hTB.upd hU hFc hne1;replace hNX := hNX.upd hU hFc hne2;have hF := hF2;clear hF2 hFc hU fcs N34 N31;have hL2 : (L.set i q).length = T.length := by rw [List.length_set];exact hLl
       have hden : denL x ((L.set i q).drop (i + 1)) g = some r2 := by rw [List.drop_set_of_lt (by omega)];exact hr2
       replace hR : (L.set i q).take (i + 1) ++ r2 = Rl := by
        rw [← hR,List.take_succ_eq_append_getElem (by rw [List.length_set];omega),List.getElem_set_self,List.take_set_of_le (Nat.le_refl _),List.append_assoc];rfl
       clear hr2 hLl hL0;refine sr_nil (blockQ_n (zN (K5 [0,3,6,20,21] ?_)));exact K6 fun K => K8 rfl (mv (rl K (zO (⟨rfl,i + 1,⟨_,_,r2,⟨rfl,rfl,rfl,rfl,rfl,rfl,rfl,rfl,rfl,congrArg (Value.int .i64) (wrap_succ (by omega)),trivial⟩,by omega,hL2,E0,hTB,hF,hNX,hden,hR⟩,by omega⟩))))
     · have hge := f_lt hc;obtain rfl : i = T.length := by omega
       clear hc;rw [List.drop_eq_nil_of_le (by omega)] at hden;unfold denL at hden;obtain rfl := Option.some.inj hden;clear hden;rw [List.append_nil,List.take_of_length_le (by omega)] at hR;subst hR;refine wpe_exit (seqQ_x (loopQ_x (zL (zN (rJ fun K => ag (ag (rm [0,3,4,5,6,20,21] K ?_)))))));refine zB (funQ_r ?_);exact ⟨rfl,_,gives_tmp2 rfl rfl rfl,E0,_,rfl,_,tc,(by rw [hLl];rfl),by rw [hLl];exact htc,hTB.rd,by rw [hLl];exact htl,fun _ => ⟨tb,rfl,hgt⟩⟩
variable {L : List (List UInt8)} {T : TypeId} {b cu k n : Nat} {pu pv : Option Addr} {w' : World}
theorem info52' : (prog.info? 52).map (fun i => (i.zero,i.size)) = some (some (S []),1) := by kernel_rfl
theorem IsVs.one {t : List UInt8} (hB : Blk w b T [S t]) : IsVs w (.slice (some ⟨b,0,none⟩) 1 1) [t] := by
 refine ⟨_,1,rfl,Nat.le_refl _,fun i hi => ?_⟩;have : i = 0 := by simpa using hi
 subst this;exact ⟨⟨b,0,none⟩,rfl,hB.lt,by rw [addr_add,hB.cell];rfl⟩
theorem IsVV.two {cv : Nat} {M K : List (List UInt8)} (hB : Blk w b T [.slice pu M.length cu,.slice pv K.length cv]) (h : IsVs w (.slice pu M.length cu) M) (h' : IsVs w (.slice pv K.length cv) K) : IsVV w (.slice (some ⟨b,0,none⟩) 2 2) [M,K] := by
 refine ⟨_,2,rfl,Nat.le_refl _,fun i hi => ?_⟩
 match i,hi with
 | 0,_ => exact ⟨⟨b,0,none⟩,pu,cu,rfl,hB.lt,by rw [addr_add,hB.cell];rfl,h⟩
 | 1,_ => exact ⟨⟨b,0,none⟩,pv,cv,rfl,hB.lt,by rw [addr_add,hB.cell];rfl,h'⟩
theorem besselE_of {l : Poly} (hk : k < 9) (h : bessel k = some l) : besselE (k : Int) = some (l,0) := by
 unfold besselE familyE;rw [if_neg (by omega),Int.toNat_natCast];show (bessel k).map _ = _;rw [h];rfl
theorem binomialE_of {l : Poly} (hk : k < 9) (h : binomial k = some l) : binomialE (k : Int) = some (l,0) := by
 unfold binomialE familyE;rw [if_neg (by omega),Int.toNat_natCast];show (binomial k).map _ = _;rw [h];rfl
theorem sm_txt (h : smM L = true) : L.length≤10∧∀ i,i < L.length→(L.getD i []).length≤40 := by
 unfold smM shM at h;simp only [Bool.and_eq_true,decide_eq_true_eq,List.all_eq_true] at h;exact ⟨h.1,fun i hi => by rw [List.getD_eq_getElem?_getD,List.getElem?_eq_getElem hi];exact h.2.2 _ (List.getElem_mem hi)⟩
theorem denorm_ne {d x : Poly} {u : Rat} (h : denorm d u = some (x,0)) (hx : x≠[]) : trim d≠[] := fun e => by
 unfold denorm at h;rw [e] at h;split at h
 · cases h
 · split at h
   · cases h;exact hx rfl
   · cases h
theorem Ext.self (_ : Ext w w') : Ext w' w' := Ext.refl w'
theorem Ext.szE (_ : Ext w w') : ∃ s,s = w'.heap.size := ⟨_,rfl⟩
theorem hur0 : hurS (0,0,0) = true := by decide
theorem room_co {x : Poly} {U : Nat} (h : ∀ k,sz (co x k)≤U) (hU : U < 500000000000) (i : Nat) : rroom (x.getD i 0) (x.getD i 0) = true := by
 have := h i;unfold co at this;exact decide_eq_true (by omega)
theorem FilterShifts_ok {t : List UInt8} (hn : n < 256) (hv : IsVs w v L) : Ret prog 5 #[.int .u8 (n : Int),v,S t] w (fun r _ => r = .bool true) := by
 obtain ⟨pl,cl,rfl,hcl,hin⟩ := hv;have hv : IsVs w (.slice pl L.length cl) L := ⟨pl,cl,rfl,hcl,hin⟩;clear hin;have E0 : Ext w w := Ext.refl w;refine J0 179 func5 rfl (rj fun K => ag (rm [0,1,2] K ?_));refine zA (rJ fun K => mv ?_);refine K1 (runs_buildSlice (cs := [S t]) Tryz.underlying22 info52' (by decide) (by decide) (by kernel_rfl) fun b6 w7 hb7 hE hB7 hs => ?_);replace E0 := E0.trans hE;replace hv := hv.ext hE;clear hE hb7 hs;have hv1 := IsVs.one hB7;clear hB7;refine K1 (runs_buildSlice (cs := [.slice pl L.length cl,.slice (some ⟨b6,0,none⟩) 1 1]) under123 info22' (by decide) (by decide) (by kernel_rfl) fun b7 w7 hb7 hE hB7 hs => ?_);replace E0 := E0.trans hE;replace hv := hv.ext hE;replace hv1 := hv1.ext hE;clear hE hb7 hs;refine K1 (j1 E0 hv.ext hb13 (smallL_ok (IsVV.two (K := [t]) hB7 hv hv1) (by simp)) fun vs w1 E0 hv hr => ?_);clear hB7 hv1;obtain rfl := hr.trans (congrArg Value.bool (show [L,[t]].all smM = (smM L && smM [t]) by simp));refine K1 (runs_not rfl (rm [0,1,2,25] K ?_));refine K0 rfl ?_ ?_ <;> intro hc
 · refine rj fun K => K1 (j1 E0 hv.ext hb14 (Awake_ok) fun va w2 E0 hv hr => ?_);subst hr;refine ag (rm [6] K ?_);exact zB (seqQ_r (en rfl E0 rfl))
 · have hLt : smM L = true∧smM [t] = true := by
    cases h1 : smM L with
    | true => cases h2 : smM [t] with
     | true => exact ⟨rfl,rfl⟩
     | false => rw [h1,h2] at hc;cases hc
    | false => rw [h1] at hc;cases hc
   clear hc;obtain ⟨hL,ht1⟩ := hLt;obtain ⟨hl10,hl40⟩ := sm_txt hL;have ht40 : t.length≤40 := (sm_txt ht1).2 0 (by simp);obtain ⟨la,hla1,hla2,hla3⟩ := fam_of (bess_fam (n % 9) (Nat.mod_lt _ (by decide)));obtain ⟨lb,hlb1,hlb2,hlb3⟩ := fam_of (bino_fam (n % 9) (Nat.mod_lt _ (by decide)));have hla := besselE_of (Nat.mod_lt _ (by decide)) hla1;have hlb := binomialE_of (Nat.mod_lt _ (by decide)) hlb1;clear hla1 hlb1;refine sk (rJ fun K => K1 (runs_convInt (S := 5) (D := 3) Tryz.underlying5 Tryz.underlying3 rfl ?_));rw [wrap_id (by omega) (by omega)];refine K1 (runs_uirem (b := 9) (n % 9) rfl rfl (by decide) rfl (K1 (j1 E0 hv.ext hb32 (Bessel_ok hla) fun vf w2 E0 hv hr => ?_)));obtain ⟨ula,rfl,ha⟩ := hr;replace ha := ha.poly;obtain ⟨pa,ca,rfl,hcpa,haP,hal⟩ := ha;have ha : IsPoly _ (.slice pa la.length ca) la := ⟨pa,ca,rfl,hcpa,haP,hal⟩;clear haP;refine mv (xt rfl (xt rfl (ag (ag (rm [0,1,2,7,8] K ?_)))));refine rJ fun K => K1 (runs_convInt (S := 5) (D := 3) Tryz.underlying5 Tryz.underlying3 rfl ?_);rw [wrap_id (by omega) (by omega)];refine K1 (runs_uirem (b := 9) (n % 9) rfl rfl (by decide) rfl (K1 (j2 E0 hv.ext ha.ext hb33 (Binomial_ok hlb) fun vf w3 E0 hv ha hr => ?_)));obtain ⟨ulb,rfl,hb⟩ := hr;replace hb := hb.poly;obtain ⟨pb,cb,rfl,hcpb,hbP,hbl⟩ := hb;have hb : IsPoly _ (.slice pb lb.length cb) lb := ⟨pb,cb,rfl,hcpb,hbP,hbl⟩;clear hbP;refine mv (xt rfl (xt rfl (ag (ag (rm [0,1,2,7,8,9,10] K ?_)))))
   refine zA (rJ fun K => K8 rfl (mv (K7 (K2 (zG rfl rfl rfl (pk rfl (mv (K7 (K2 (j3 E0 hv.ext ha.ext hb.ext hb20 (hurwitz_ok ha hla3) fun vh1 w4 E0 hv ha hb hr => ?_))))))))));obtain rfl := hr.trans (congrArg Value.bool hur0);refine K2 (runs_not rfl (pk rfl (mv (K7 (K2 (j3 E0 hv.ext ha.ext hb.ext hb20 (hurwitz_ok hb hlb3) fun vh2 w5 E0 hv ha hb hr => ?_))))));obtain rfl := hr.trans (congrArg Value.bool hur0);refine K2 (runs_not rfl (pk rfl (mv (K7 (K2 (zF slice25 rfl (K7 (K2 (runs_convInt (S := 5) (D := 3) Tryz.underlying5 Tryz.underlying3 rfl ?_)))))))));rw [wrap_id (by omega) (by omega)];refine K2 (runs_uirem (b := 9) (n % 9) rfl rfl (by decide) rfl (K2 (runs_uiadd (a := 1) (1 + n % 9) rfl rfl rfl (by omega) ?_)));refine K2 (zG (v := .bool (false)) rfl rfl (congrArg (fun z => some (Value.bool z)) (by rw [hla2];exact bne_eq_false_iff_eq.2 (by omega))) ?_);refine pk rfl (mv (K7 (K2 (zF slice25 rfl (K7 (K2 (zF slice25 rfl ?_)))))));refine K2 (zG (v := .bool (false)) rfl rfl (congrArg (fun z => some (Value.bool z)) (by rw [hla2,hlb2];exact bne_self_eq_false _)) ?_);refine pk rfl (rm [1,2,72] K ?_);refine wcf rfl (sk (rj fun K => mv ?_));refine K1 (j3 E0 hv.ext ha.ext hb.ext hb15 (List_ok hv (fun i hi => by have := hl40 i hi;omega) (by omega)) fun vx0 w6 E0 hv ha hb hr => ?_);obtain ⟨vx,vt,rfl,hxa,-⟩ := hr;have hx := (hxa.own (by simp [numsS];omega)).poly;clear hxa ha hb
   refine mv (xt rfl (xt rfl (ag (ag (rm [2,11] K ?_)))));refine rJ fun K => K1 (j2 E0 hv.ext hx.ext hb34 (Trim_ok hx) fun vx8 w7 E0 hv hx hr => ?_);have hx := hr.poly;clear hr;refine ag (rm [2,11] K ?_);refine rj fun K => mv ?_;refine K1 (runs_buildSlice (cs := [S t]) Tryz.underlying22 info52' (by decide) (by decide) (by kernel_rfl) fun b9 w7 hb7 hE hB7 hs => ?_);replace E0 := E0.trans hE;replace hv := hv.ext hE;replace hx := hx.ext hE;clear hE hb7 hs;have hv1 := IsVs.one hB7;clear hB7;have hone : ∀ i,i < [t].length→([t].getD i []).length < 1000000000 := fun i hi => by
    have : i = 0 := by simpa using hi
    subst this;show t.length < _;omega
   refine K1 (j2 E0 hv.ext hx.ext hb15 (List_ok hv1 hone (by simp)) fun vu0 w8 E0 hv hx hr => ?_);obtain ⟨vu,vt2,rfl,hua,-⟩ := hr;have hu : IsPoly _ vu [(parseS t).1] := (hua.own (by simp [numsS])).poly;clear hua hv1;have hlaw := shifts_law hL ht40;generalize (parseS t).1 = q at hlaw hu;generalize trim (numsS L) = x at hlaw hx;obtain ⟨pu,cu,rfl,hcu,huP,hul⟩ := hu;obtain ⟨px,cx,rfl,hcpx,hxP,hxl⟩ := hx;have hx : IsPoly _ (.slice px x.length cx) x := ⟨px,cx,rfl,hcpx,hxP,hxl⟩;refine mv (xt rfl (xt rfl (ag (ag (rm [11,13] K ?_)))));refine zA (zA ?_);rcases hlaw with hx0 | ⟨m,hm,hm10,hsz,hx0 | ⟨hx0,R,R1,g1,g2,r1,r2,he,hneg,hpos⟩⟩
   · skip
     refine rI fun K => K1 (zF slice25 rfl ?_);refine K9 (true) rfl (by rw [hx0];rfl) ?_;refine mv (K3 (K3 (K3 (K3 (K3 (pk rfl (rs [11,13,95] K ?_)))))));refine wct rfl (rj fun K => K1 (j4 E0 hv.ext hx.ext huP.ext hxP.ext hb14 (Awake_ok) fun va w9 E0 hv hx huP hxP hr => ?_));subst hr;refine ag (rm [6] K ?_);exact zB (seqQ_r (en rfl E0 rfl))
   · skip
     refine rI fun K => K1 (zF slice25 rfl (K9 (false) rfl (beq_eq_false_iff_ne.2 (by omega)) (mv (K7 (K2 (runs_pindex (l := x) (ix := 0) hxP rfl rfl (by omega) (K2 (runs_pload (l := x) (i := 0) hxP (by omega) rfl fun vn hvn => K2 (j4 E0 hv.ext hx.ext huP.ext hxP.ext hb19 (Sign_ok hvn) fun vs w9 E0 hv hx huP hxP hr => ?_)))))))));subst hr;refine K2 (zG (v := .bool (true)) rfl rfl (congrArg (fun z => some (Value.bool z)) (by rw [show x.getD 0 0 = 0 from hx0];rfl)) ?_);refine pk rfl (rs [11,13,95] K ?_);refine wct rfl (rj fun K => K1 (j4 E0 hv.ext hx.ext huP.ext hxP.ext hb14 (Awake_ok) fun va w10 E0 hv hx huP hxP hr => ?_));subst hr;refine ag (rm [6] K ?_);exact zB (seqQ_r (en rfl E0 rfl))
   · skip
     refine rI fun K => K1 (zF slice25 rfl (K9 (false) rfl (beq_eq_false_iff_ne.2 (by omega)) (mv (K7 (K2 (runs_pindex (l := x) (ix := 0) hxP rfl rfl (by omega) (K2 (runs_pload (l := x) (i := 0) hxP (by omega) rfl fun vn hvn => K2 (j4 E0 hv.ext hx.ext huP.ext hxP.ext hb19 (Sign_ok hvn) fun vs w9 E0 hv hx huP hxP hr => ?_)))))))));subst hr;refine K2 (zG (v := .bool (false)) rfl rfl (congrArg (fun z => some (Value.bool z)) (by rcases rsign_cases (show x.getD 0 0≠0 from hx0) with ⟨_,e⟩ | ⟨_,e⟩ <;> rw [e] <;> rfl)) ?_);refine pk rfl (rs [11,13,95] K ?_);refine wcf rfl (sk (rJ fun K => K1 (j4 E0 hv.ext hx.ext huP.ext hxP.ext hb35 (High_ok hx) fun vg w10 E0 hv hx huP hxP hr => ?_)));rw [g1] at hr;obtain ⟨uh,rfl,hh⟩ := hr;replace hh := hh.poly;refine mv (xt rfl (xt rfl (ag (ag (rm [8,11,13,15] K ?_)))));refine rJ fun K => K1 (j5 E0 hv.ext hx.ext huP.ext hxP.ext hh.ext hb35 (High_ok hh) fun vg2 w11 E0 hv hx huP hxP hh hr => ?_);rw [g2] at hr;obtain ⟨ub2,rfl,hk2⟩ := hr;replace hk2 := hk2.poly;refine mv (xt rfl (xt rfl (ag (ag (rm [8,10,11,13,15,16] K ?_)))));refine zA (rJ fun K => K8 rfl (mv (K7 (K2 (zG rfl rfl rfl (pk rfl (mv (K7 (K7 (K2 (j6 E0 hv.ext hx.ext huP.ext hxP.ext hh.ext hk2.ext hb21 (equal_ok hk2 hx (fun _ i _ => room_co hsz (by decide) i)) fun ve w12 E0 hv hx huP hxP hh hk2 hr => ?_)))))))))));obtain rfl := hr.trans (congrArg Value.bool (decide_eq_true rfl))
     refine K2 (runs_not rfl (pk rfl (mv (K7 (K2 (j6 E0 hv.ext hx.ext huP.ext hxP.ext hh.ext hk2.ext hb20 (hurwitz_ok hh r2) fun vh3 w13 E0 hv hx huP hxP hh hk2 hr => ?_))))));subst hr;refine K7 (K2 (j6 E0 hv.ext hx.ext huP.ext hxP.ext hh.ext hk2.ext hb20 (hurwitz_ok hx r1) fun vh4 w14 E0 hv hx huP hxP hh hk2 hr => ?_));subst hr;refine K2 (runs_bneq under4 rfl rfl ?_);rw [he,show (hurS R != hurS R) = false from bne_self_eq_false _];refine pk rfl (rm [11,13,125] K ?_);refine wcf rfl (sk (zA ?_));by_cases hq : 0 < q
     · obtain ⟨d,R2,d1,d2,d3,r3,he2⟩ := hpos hq;have hxn : trim x≠[] := fun e => by have := co_trim x 0;rw [e,co_nil] at this;exact hx0 this.symm
       have hdn := denorm_ne d3 (fun e => by rw [e] at hm;cases hm);obtain ⟨hrr,-⟩ := rdiv_some d2;refine rI fun K => mv (K1 (runs_pindex (l := [q]) (ix := 0) huP rfl rfl (by simp) (K1 (runs_pload (l := [q]) (i := 0) huP (by simp) rfl fun vn hvn => ?_))));replace hvn : IsNum _ vn q := hvn;refine K1 (j6 E0 hv.ext hx.ext huP.ext hxP.ext hh.ext hk2.ext hb36 (Denorm_ok hx hvn hxn d1) fun vd w15 E0 hv hx huP hxP hh hk2 hr => ?_);obtain ⟨ud,rfl,hd⟩ := hr;replace hd := hd.poly;clear hvn;have hX := E0.self;obtain ⟨SZ,hSZ⟩ := E0.szE;have hs1 := E0.size;have hx1 := hx;have hd1 := hd;refine mv (xt rfl (xt rfl (ag (ag (rs [8,11,13,17] K ?_)))));refine zA (rJ fun K => K1 (runs_pindex (l := [q]) (ix := 0) huP rfl rfl (by simp) (K1 (runs_pload (l := [q]) (i := 0) huP (by simp) rfl fun vn2 hvn2 => ?_))));replace hvn2 : IsNum _ vn2 q := hvn2;refine K1 (j8 E0 hv.ext hx.ext huP.ext hxP.ext hh.ext hk2.ext hd.ext hX.ext hb19 (Sign_ok hvn2) fun vs w16 E0 hv hx huP hxP hh hk2 hd hX hr => ?_);subst hr;refine K9 (false) rfl (decide_eq_false (fun e => (rsign_le q).1 e hq)) (rm [8,11,13,17,138] K ?_)
       refine wcf rfl (sk (zA (wpe_tailF 7 9 [([],none),([(13,none)],none),([(146,some 0)],none),([(147,some 0)],none),([(145,some 3),(148,some 0)],none),([(149,some 0)],none),([(144,some 0)],none),([(144,some 1)],none),([],none)] mixed (by kernel_rfl) (by kernel_rfl) (by kernel_rfl) (by kernel_rfl) (by kernel_rfl) (by kernel_rfl) fun K hK => dcp (fun v w' => IsNum w' v 1) (fun _ _ _ _ hx h => h.ext hx.toExt) (fun σ wx hE hk => zI hb38 (CallK.of_ret (Int_ok (n := 1) (by decide) (by decide)) fun v w2 hX hr => ⟨hX,(by exact hr)⟩) rfl) (dvp (fun σ wx hE hk => zC ⟨Ext.refl _,hk.1⟩) (dcp (fun v _ => v = .pointer (pu.map fun a => a.add (3 * 0))) (fun _ _ _ _ _ h => h) (fun σ wx hE hk => runs_pindex (l := [q]) (ix := 0) (huP.ext hE) hk.1 rfl (by simp) ⟨Ext.refl _,rfl⟩) (dcp (fun v w' => IsNum w' v q) (fun _ _ _ _ hx h => h.ext hx.toExt) (fun σ wx hE hk => runs_pload (l := [q]) (i := 0) (huP.ext hE) (by simp) hk.1 fun v h => ⟨Ext.refl _,h⟩) ?_))))));refine dcp (fun v w' => ∃ z,v = .tuple #[z,.int .i64 (if q = 0 then 8 else 0)]∧IsNum w' z (1 / q)) (fun _ _ _ _ hx h => (let ⟨z,e,hz⟩ := h;⟨z,e,hz.ext hx.toExt⟩)) (fun σ wx hE hk => zI hb37 (CallK.of_ret (Div_ok hk.1 hk.2.1 hrr) fun v w2 hX hr => ⟨hX,hr⟩) rfl) ?_
       refine dcp (fun v w' => ∃ z,v = .tuple #[z,.int .i64 (if q = 0 then 8 else 0)]∧IsNum w' z (1 / q)) (fun _ _ _ _ hx h => (let ⟨z,e,hz⟩ := h;⟨z,e,hz.ext hx.toExt⟩)) (fun σ wx hE hk => zC ⟨Ext.refl _,hk.1⟩) ?_;refine dcp (fun v w' => IsNum w' v (1 / q)) (fun _ _ _ _ hx h => h.ext hx.toExt) (fun σ wx hE hk => (let ⟨z,e,hz⟩ := hk.1;runs_extract e rfl ⟨Ext.refl _,hz⟩)) ?_;refine dcp (fun v _ => v = .int .i64 (if q = 0 then 8 else 0)) (fun _ _ _ _ _ h => h) (fun σ wx hE hk => (let ⟨z,e,hz⟩ := hk.1;runs_extract e rfl ⟨Ext.refl _,rfl⟩)) ?_;refine dcp (fun v w' => ∃ b,v = .pointer (some ⟨b,0,none⟩)∧Blk w' b 37 [.bool false,.slice none 0 0,.slice none 0 0]∧SZ≤b) (fun _ _ _ _ hx h => (let ⟨b,e,hB,hg⟩ := h;⟨b,e,hB.ext hx.toExt,hg⟩)) (fun σ wx hE hk => runs_alloc zero37 fun b w2 hb hY hB hs => ⟨hY,b,rfl,hB,(by rw [hb,hSZ];exact (hX.trans hE).size)⟩) ?_;refine dp_nil (hK _ fun wq hE => ?_);rintro v145 N145 _ rfl v147 N147 v148 N148 v149 N149 v144 N144 v150 N150 v151 N151 v18 N18;refine forAll_nil ?_;replace E0 := E0.trans hE;replace hv := hv.ext hE;replace hx := hx.ext hE;replace huP := huP.ext hE;replace hxP := hxP.ext hE;replace hh := hh.ext hE;replace hk2 := hk2.ext hE;replace hd := hd.ext hE;replace hX := hX.ext hE;clear hE;obtain ⟨gb,rfl,hBg,hgg⟩ := N18;refine K1 (zK rfl N150 (Cell3.of hBg rfl) fun _ w9 hU hNA => ?_);have hE2 := hX.upd hU (by omega);replace E0 := E0.upd hU (by omega)
       replace hx := hx1.ext hE2;replace hd := hd1.ext hE2;clear hv hxP huP hh hk2 hX hU hBg N150 N145 N148 N147 N149 N144 N151;refine ag (sr_nil (zN (K5 [8,11,17,18] ?_)));refine rJ fun K => K1 (runs_numAt rfl hNA fun v154 N154 => K1 (j3 E0 hx.ext hd.ext hNA.ext hb36 (Denorm_ok hd N154 hdn d3) fun vd2 w17 E0 hx hd hNA hr => ?_));obtain ⟨ub3,rfl,hb3⟩ := hr;replace hb3 := hb3.poly
       try clear N154
       refine mv (xt rfl (xt rfl (ag (ag (rm [8,10,11,16,17] K ?_)))));refine rJ fun K => K8 rfl (mv (K7 (K2 (zG rfl rfl rfl (pk rfl (mv (K7 (K7 (K2 (j4 E0 hx.ext hd.ext hNA.ext hb3.ext hb21 (equal_ok hb3 hx (fun _ i _ => room_co hsz (by decide) i)) fun ve2 w18 E0 hx hd hNA hb3 hr => ?_))))))))));obtain rfl := hr.trans (congrArg Value.bool (decide_eq_true rfl));refine pk rfl (mv (K7 (K2 (j4 E0 hx.ext hd.ext hNA.ext hb3.ext hb20 (hurwitz_ok hd r3) fun vh5 w19 E0 hx hd hNA hb3 hr => ?_))));subst hr;refine K7 (K2 (j4 E0 hx.ext hd.ext hNA.ext hb3.ext hb20 (hurwitz_ok hx r1) fun vh6 w20 E0 hx hd hNA hb3 hr => ?_));subst hr;refine K2 (runs_beql under4 rfl rfl ?_);rw [he2,show (hurS R == hurS R) = true from beq_self_eq_true _];refine pk rfl (mv (K2 (j4 E0 hx.ext hd.ext hNA.ext hb3.ext hb14 (Awake_ok) fun va w21 E0 hx hd hNA hb3 hr => ?_)));subst hr;refine pk rfl (ag (rm [6] K ?_));exact zB (en rfl E0 rfl)
     · have d1 := hneg hq;have hxn : trim x≠[] := fun e => by have := co_trim x 0;rw [e,co_nil] at this;exact hx0 this.symm
       refine rI fun K => mv (K1 (runs_pindex (l := [q]) (ix := 0) huP rfl rfl (by simp) (K1 (runs_pload (l := [q]) (i := 0) huP (by simp) rfl fun vn hvn => ?_))));replace hvn : IsNum _ vn q := hvn;refine K1 (j6 E0 hv.ext hx.ext huP.ext hxP.ext hh.ext hk2.ext hb36 (Denorm_ok hx hvn hxn d1) fun vd w15 E0 hv hx huP hxP hh hk2 hr => ?_);obtain ⟨ud,rfl,hd⟩ := hr;clear hd hvn;refine mv (xt rfl (xt rfl (ag (ag (rs [8,11,13,17] K ?_)))));refine zA (rJ fun K => K1 (runs_pindex (l := [q]) (ix := 0) huP rfl rfl (by simp) (K1 (runs_pload (l := [q]) (i := 0) huP (by simp) rfl fun vn2 hvn2 => ?_))));replace hvn2 : IsNum _ vn2 q := hvn2;refine K1 (j6 E0 hv.ext hx.ext huP.ext hxP.ext hh.ext hk2.ext hb19 (Sign_ok hvn2) fun vs w16 E0 hv hx huP hxP hh hk2 hr => ?_);subst hr;refine K9 (true) rfl (decide_eq_true ((rsign_le q).2 hq)) (rm [8,11,13,17,138] K ?_);refine wct rfl (rJ fun K => K8 rfl (mv (K2 (j6 E0 hv.ext hx.ext huP.ext hxP.ext hh.ext hk2.ext hb14 (Awake_ok) fun va w17 E0 hv hx huP hxP hh hk2 hr => ?_))));subst hr;refine pk rfl (ag (rm [6] K ?_));exact zB (seqQ_r (en rfl E0 rfl))
end Go.Proofs.YtjiendlfobjanaaGreatDoor
