/-
  A part of the proof: W41, W42, W43, W44, Dec, StrL, W59, W45p, W45, Ref30, W46, W47, W48, W49, W50, RNum, W51, W52, RList, W53, W54, W60, W61, RPoly, W62, W63, W64, Rev98, LawH, LawS, W56, W57, W58, W65, W66, LawF, Net, LawF2, LawD, W70, W108, W109, W99, W100, W68, W69, Sym, Sym2, W110, W111, W112, W113, W114.
-/
import Derived.Test.YtjiendlfobjanaaGreatDoorH04
import Derived.Lib.ItoaNum
import Derived.Shelf.SlicesQ.Reverse
namespace Go.Proofs.YtjiendlfobjanaaGreatDoor
open Go Go.RowKit Go.Proofs Tryz
set_option maxRecDepth 10000
set_option maxHeartbeats 2000000
variable {N b fuel n t:Nat} {P:Program} {T T':TypeId} {cs:List Value} {fn:Func} {u1 u2 v:Value} {w:World} {ρ:Env}
section gives
theorem zFv {s u:Nat} (h:fn.results = #[.tmp s,.cell t T,.tmp u]) (hs:(dom ρ).contains s=true) (hd:(dom ρ).contains t=true) (hu:(dom ρ).contains u=true) (hv:look1 ρ t = .pointer (some ⟨b,0,none⟩)) (hT:Aggr P T n) (hB:Blk w b T' cs) (hn:cs.length=n):Gives P fn N ρ w (.tuple #[look1 ρ s,.agg cs.toArray,look1 ρ u]):=fun a hf=>by
 have h0:=hf.at_ s (by simpa using hs);have h1:=hf.at_ t (by simpa using hd);have h4:=hf.at_ u (by simpa using hu);rw [hv] at h1;have h2:=zCG (o:=0) hT hB (by omega);have h3:((cs.drop 0).take n).toArray=cs.toArray:=by rw [List.drop_zero,List.take_of_length_le (by omega)]
 rw [h3] at h2;rw [Array.getD_eq_getD_getElem?] at h1;simp only [results,h];rw [← h0,← h4];simp [h1,asAddr,h2]
end gives
attribute [local irreducible] Runs WPE CallK Ret
def zKX (num den:Poly) (m:List BandT) (fuel:Nat):Option (Int×Rat×Int) :=
 if 21<max (trim num).length (trim den).length then some (0,0,3) else (zEZ m).bind fun l=>if l.2≠0 then some (0,0,l.2) else
  (zEE num den l.1 0).bind fun k=>if 0≤k then (l.1[k.toNat]?).bind fun B=>(rules num den B.least B.most).bind fun r=>(rsub B.hi B.lo).bind fun d=>(witN r.1 r.2 B.lo (rabs d) fuel 1).map fun x=>(k,x,0)
  else some (k,0,0)
theorem zIh:∀ {l:List BandT} {A:List Band} {R:List Band×Int},zFM l A=some R→R.1.length≤A.length+l.length
 | [],A,R,h=>by cases h;simp
 | t :: l,A,R,h=>by
  unfold zFM at h;split at h
  · cases h;simp
  · split at h
    · cases h;simp
    · split at h
      · cases h;simp
      · split at h
        · cases h;simp
        · obtain ⟨bad,_,h⟩:=bind_some h;split at h
          · cases h;simp
          · have:=zIh h;simp at this ⊢;omega
theorem bandsS_len {m:List BandT} {R:List Band×Int} (h:zEZ m=some R):R.1.length≤6:=by
 unfold zEZ at h;split at h
 · cases h;simp
 · have:=zIh h;simp at this;omega
theorem zLO {num den:Poly} {m:List BandT} {R:Int×Rat×Int} (h1:zM w u1 num) (h2:zM w u2 den) (hm:zCp w v m) (hlen:∀ (i:Nat) (t:BandT),m[i]? = some t→t.lo.length<1000000000∧t.hi.length<1000000000∧t.least.length<1000000000∧t.most.length<1000000000) (hfu:2^fuel≤1099511627776) (h:zKX num den m fuel=some R):Ret prog 29 #[u1,u2,v] w (fun r w'=>∃ u,r = .tuple #[.int .i64 R.1,u,.int .i64 R.2.2]∧IsNum w' u R.2.1):=by
 have hnl:num.length≤4096:=by obtain ⟨_,_,_,_,_,h4⟩:=h1;exact h4
 have hdl:den.length≤4096:=by obtain ⟨_,_,_,_,_,h4⟩:=h2;exact h4
 have htn:=zBp num;have htd:=zBp den;refine J0 41 func29 rfl (rj fun K=>ag ?_);refine K1 (zK zAP fun b1 w1 hb hE hB1 hs => ?_);have hgb1:w.heap.size≤b1:=by rw [hb];exact E0.size
 replace E0:=E0.trans hE;clear hE hs hb;refine ag (rm [0,1,2,7] K ?_);refine zA (zA ?_);replace hB1:Blk _ b1 37 [.bool false,.slice none 0 0,.slice none 0 0]:=hB1;refine rI fun K=>K1 (j1 E0 hB1.ext hb18 (zCK (h1.ext E0)) fun vi w2 E0 hB1 hr => ?_);subst hr;refine mv (K1 (j1 E0 hB1.ext hb18 (zCK (h2.ext E0)) fun vi w2 E0 hB1 hr => ?_));subst hr;refine K1 (zCj rfl rfl ?_);have hmx:(if (((trim num).length:Int)-1)<(((trim den).length:Int)-1) then (((trim den).length:Int)-1) else (((trim num).length:Int)-1))=max ((trim num).length:Int) (trim den).length-1:=by split<;>omega
 rw [hmx];refine K8 rfl (rs [0,1,2,7,15] K ?_);refine K0 rfl ?_ ?_<;>intro hc
 · have hb:21<max (trim num).length (trim den).length:=by have:=of_decide_eq_true hc;omega
   clear hc;unfold zKX at h;rw [if_pos hb] at h;obtain rfl:=Option.some.inj h;refine rj fun K=>K1 (zj (cs := #[.bool false,.slice none 0 0,.slice none 0 0]) (by kernel_rfl) (ag (K1 (zI rfl IsNum.zero (Cell3.of hB1 rfl) fun _ w9 hU hNA => ?_))));replace E0:=E0.upd hU hgb1;refine ag (rm [6,7,8] K ?_);refine zE (zY (zQ ?_));obtain ⟨cs4,hB4,hl4,hN4⟩:=hNA;exact ⟨rfl,_,zFv rfl rfl rfl rfl rfl zAB hB4 hl4,E0,_,rfl,hN4⟩
 · have hb:¬ 21<max (trim num).length (trim den).length:=by have:=of_decide_eq_false hc;omega
   clear hc;unfold zKX at h;rw [if_neg hb] at h;obtain ⟨l,hl,h⟩:=bind_some h;have hll:=bandsS_len hl;refine sk (rJ fun K=>K1 (j1 E0 hB1.ext hb87 (zLW (hm.ext E0) hlen hl) fun v19 w2 E0 hB1 hr => ?_));obtain ⟨u,rfl,hA⟩:=hr;have hA:=hA.bands;refine mv (xt rfl (xt rfl (ag (ag (rm [0,1,7,8,9] K ?_)))));refine zA (rJ fun K=>K8 rfl (rm [0,1,7,8,9,23] K ?_));refine K0 rfl ?_ ?_<;>intro hc
   · have he:l.2≠0:=bne_iff_ne.1 hc;clear hc;rw [if_pos he] at h;obtain rfl:=Option.some.inj h;refine rj fun K=>K1 (zj (cs := #[.bool false,.slice none 0 0,.slice none 0 0]) (by kernel_rfl) (mv (ag (K1 (zI rfl IsNum.zero (Cell3.of hB1 rfl) fun _ w9 hU hNA => ?_)))));replace E0:=E0.upd hU hgb1;refine ag (rm [6,7,8] K ?_);refine zE (zY (zQ ?_));obtain ⟨cs4,hB4,hl4,hN4⟩:=hNA;exact ⟨rfl,_,zFv rfl rfl rfl rfl rfl zAB hB4 hl4,E0,_,rfl,hN4⟩
   · have he:l.2=0:=bne_eq_false_iff_eq.1 hc;clear hc;rw [if_neg (by omega)] at h;obtain ⟨k,hk,h⟩:=bind_some h;refine sk (zA (rJ fun K=>mv (mv (K1 (j2 E0 hB1.ext hA.ext hb88 (zIo (h1.ext E0) (h2.ext E0) hA (by omega) hk) fun vi w2 E0 hB1 hA hr => ?_)))));subst hr;refine ag (rm [0,1,6,7,9] K ?_);refine rJ fun K=>K8 rfl (rm [0,1,6,7,9,31] K ?_);refine K0 rfl ?_ ?_<;>intro hc
     · have hk0:0≤k:=by have:=of_decide_eq_true hc;omega
       clear hc;rw [if_pos hk0] at h;obtain ⟨B,hB,h⟩:=bind_some h;obtain ⟨⟨up,low⟩,hr1,h⟩:=bind_some h;obtain ⟨d,hr2,h⟩:=bind_some h;obtain ⟨x,hr3,hR⟩:=map_some h;obtain ⟨hrw,rfl⟩:=zKg hr2;obtain ⟨n,rfl⟩:∃ n:Nat,k=n:=⟨k.toNat,by omega⟩;rw [Int.toNat_natCast] at hB;have hlt:n<l.1.length:=(List.getElem?_eq_some_iff.1 hB).1;obtain ⟨ap,ac,rfl,hAA⟩:=hA;obtain ⟨ab,cs,hap,hAB,hAl,hAt⟩:=(hAA.resolve_left (fun e=>by rw [e] at hlt;simp at hlt));refine rI fun K=>mv (K1 (zO zEP (congrArg (fun q=>Value.slice q l.1.length ac) hap) rfl (by omega) (by omega) ?_));rw [Int.toNat_natCast,Nat.zero_add,Nat.mul_comm];refine K1 (zGF rfl hAB hAl hAt hB fun v35 N35 => ?_);clear hAB hAt hAA;refine mv (mv (K1 (j1 E0 hB1.ext hb89 (witness_ok N35 (h1.ext E0) (h2.ext E0) hr1 hrw hr3 hfu) fun v38 w2 E0 hB1 N38=>K1 (zI rfl N38 (Cell3.of hB1 rfl) fun _ w9 hU hNA => ?_))));replace E0:=E0.upd hU hgb1
       try clear N38
       rw [show x=R.2.1 from by rw [← hR]] at hNA;refine rs [6,7] K ?_;refine zA (zAN 3 [([(6,none)],none),([(7,none)],none),([(39,some 1)],none)] mixed (by kernel_rfl) (by kernel_rfl) (by kernel_rfl) (by kernel_rfl) (by kernel_rfl) fun K hK=>dvp (fun σ wx hE hk=>zF ⟨Ext.refl _,hk.1⟩) (dcp (fun v w'=>IsNum w' v R.2.1) (fun _ _ _ _ hx h=>h.ext hx.toExt) (fun σ wx hE hk=>zL hk.1 (hNA.ext hE) fun v h=>⟨Ext.refl _,h⟩) (dvp (fun σ wx hE hk=>zp ⟨Ext.refl _,hk.1⟩) (zAR (hK _ fun wq hE => ?_)))));rintro _ rfl v40 N40 _ rfl;refine zU ?_;replace E0:=E0.trans hE;replace hNA:=hNA.ext hE;clear hE;obtain ⟨cs4,hB4,hl4,-⟩:=hNA;refine K1 (zI rfl N40 (Cell3.of hB4 hl4) fun _ w9 hU hNA => ?_);replace E0:=E0.upd hU hgb1;refine ag (zAi (zN (K5 [6,7,8] ?_)));refine zE (zQ ?_);obtain ⟨cs5,hB5,hl5,hN5⟩:=hNA;exact ⟨rfl,_,zFv rfl rfl rfl rfl rfl zAB hB5 hl5,E0,_,by rw [← hR];rfl,hN5⟩
     · have hk0:¬ 0≤k:=by have:=of_decide_eq_false hc;omega
       clear hc;rw [if_neg hk0] at h;have hR:(k,0,0)=R:=Option.some.inj h;have hNA:NumAt b1 0 _:=⟨_,hB1,rfl,IsNum.zero⟩;rw [show (0:Rat)=R.2.1 from by rw [← hR]] at hNA;refine sk (zA (zAN 3 [([(6,none)],none),([(7,none)],none),([(39,some 1)],none)] mixed (by kernel_rfl) (by kernel_rfl) (by kernel_rfl) (by kernel_rfl) (by kernel_rfl) fun K hK=>dvp (fun σ wx hE hk=>zF ⟨Ext.refl _,hk.1⟩) (dcp (fun v w'=>IsNum w' v R.2.1) (fun _ _ _ _ hx h=>h.ext hx.toExt) (fun σ wx hE hk=>zL hk.1 (hNA.ext hE) fun v h=>⟨Ext.refl _,h⟩) (dvp (fun σ wx hE hk=>zp ⟨Ext.refl _,hk.1⟩) (zAR (hK _ fun wq hE => ?_))))));rintro _ rfl v40 N40 _ rfl;refine zU ?_;replace E0:=E0.trans hE;replace hNA:=hNA.ext hE;clear hE;obtain ⟨cs4,hB4,hl4,-⟩:=hNA;refine K1 (zI rfl N40 (Cell3.of hB4 hl4) fun _ w9 hU hNA => ?_);replace E0:=E0.upd hU hgb1;refine ag (zAi (zN (K5 [6,7,8] ?_)));refine zE (zQ ?_);obtain ⟨cs5,hB5,hl5,hN5⟩:=hNA;exact ⟨rfl,_,zFv rfl rfl rfl rfl rfl zAB hB5 hl5,E0,_,by rw [← hR];rfl,hN5⟩
end Go.Proofs.YtjiendlfobjanaaGreatDoor
namespace Go.Proofs.YtjiendlfobjanaaGreatDoor
open Go Go.RowKit Go.Proofs Tryz
set_option maxRecDepth 10000
set_option maxHeartbeats 2000000
variable {b c i:Nat} {cs:List Value} {w:World}
theorem zKr (h:i<100):Ret prog 331 #[.int .i64 (i:Int)] w (fun v _=>v=S (Lib.decDigits i)) :=
 (Tryz.internal_strconv_small i h w).mono fun e w' ⟨he,hw⟩=>⟨_,he,by rw [hw];exact Ext.refl w,rfl⟩
theorem join1_ok {x:List UInt8} (hB:Blk w b 9 cs) (h0:cs[0]? = some (S x)) (hc:1≤c) (hx:x.length≤1000000):Ret prog 243 #[.slice (some ⟨b,0,none⟩) 1 c,S []] w (fun v _=>v=S x):=by
 have hj:Lib.join ([(⟨x.toArray⟩:ByteArray)].map (·.data.toList)) (⟨#[]⟩:ByteArray).data.toList=x:=by simp [Lib.join]
 have:=Tryz.strings_Join b 0 c [⟨x.toArray⟩] ⟨#[]⟩ w (fun j y hy=>by
  cases j with
  | zero=>simp at hy;subst hy;rw [hB.cell];exact h0
  | succ j=>simp at hy) hB.lt (by simp) (by simpa using hc) (by rw [hj];omega)
 rw [hj] at this;exact this.mono fun e w' ⟨he,hw⟩=>⟨_,he,hw,rfl⟩
theorem zDY:prog.underlying 304=some (.slice 9):=by kernel_rfl
theorem slice304:zAZ prog 304 9 1:=by unfold zAZ;exact ⟨by kernel_rfl,by kernel_rfl⟩
theorem info9:(prog.info? 9).map (fun i=>(i.zero,i.size,i.bytes))=some (some (S []),1,16):=by kernel_rfl
theorem info9':(prog.info? 9).map (fun i=>(i.zero,i.size))=some (some (S []),1):=by kernel_rfl
attribute [local irreducible] Runs WPE CallK Ret
theorem fmt2_ok (h:i<100):Ret prog 298 #[.int .u64 (i:Int),.int .i64 10] w (fun r _=>r=S (Lib.decDigits i)):=by
 refine J0 32 func298 rfl (rj fun K=>ag (rm [0,1] K ?_));refine zA (rJ fun K=>K8 rfl (rm [0,1,10] K ?_));refine wct rfl (zA (rJ fun K=>K9 true rfl (decide_eq_true (by omega)) (rm [0,12] K ?_)));refine wct rfl (rJ fun K=>K1 (zCi under164' under3' rfl ?_));rw [show IntKind.i64.wrap (i:Int)=(i:Int) from zAG (by omega) (by omega)];refine K1 (j0 E0 hb331 (zKr h) fun vi w2 E0 hr => ?_);subst hr;refine ag (rm [4] K ?_);exact zE (zY (zY (en rfl E0 rfl)))
theorem fmt_ok (h:i<100):Ret prog 240 #[.int .u64 (i:Int),.int .i64 10] w (fun r _=>r=S (Lib.decDigits i)):=by
 refine J0 8 func240 rfl (rj fun K=>ag (rm [0,1] K ?_));refine rJ fun K=>mv (K1 (j0 E0 hb298 (fmt2_ok h) fun vi w2 E0 hr => ?_));subst hr;refine ag (rm [4] K ?_);exact zE (en rfl E0 rfl)
end Go.Proofs.YtjiendlfobjanaaGreatDoor
namespace Go.Proofs.YtjiendlfobjanaaGreatDoor
open Go Go.RowKit Go.Proofs Tryz
set_option maxRecDepth 10000
set_option maxHeartbeats 2000000
attribute [local irreducible] Runs WPE CallK Ret
variable {N b c n:Nat} {P:Program} {fn:Func} {q:Rat} {v:Value} {w:World} {ρ:Env}
theorem zHi:Lib.decDigits 0=[48]:=by unfold Lib.decDigits;rfl
theorem zCQ (h:n<100):(Lib.decDigits n).length≤2:=by
 unfold Lib.decDigits;split
 · simp
 · unfold Lib.decDigits;rw [dif_pos (by omega)];simp
theorem fit_100 (h:n<100):Fit n:=zFt (by omega)
def textS (q:Rat):List UInt8:=(if q<0 then [45] else [])++Lib.decDigits q.num.natAbs++(if q.den=1 then [] else 47 :: Lib.decDigits q.den)
theorem gives_0 (h:fn.results = #[]):Gives P fn N ρ w (.tuple #[]):=fun a hf=>by
 simp only [results,h];simp
theorem rev1_ok:Ret prog 242 #[.slice (some ⟨b,0,none⟩) 1 c] w (fun _ _=>True):=by
 have E0:Ext w w:=Ext.refl w;refine J0 28 func242 rfl (rJ fun K=>K1 (zJ slice304 rfl (K1 (zAS (a:=1) (b:=1) (0) rfl rfl (by decide) (by decide) (ag (ag (rm [0,2,3] K ?_)))))));refine zG (zo (X:=Nat) (fun _ ρ w'=>Keep ρ [(2,.int .i64 0),(3,.int .i64 ((0:Nat):Int))]∧Ext w w') (fun _=>0) 0 ⟨(kp rfl),E0⟩ ?_);clear E0;rintro k ρ1 w1 ⟨hk,E0⟩;refine wpe_k _ hk ?_;clear hk ρ1;refine zA (rJ fun K=>mv (K8 rfl (rm [2,3,9] K ?_)));exact wcf rfl (zi (zAE (zv (zP (zGw ⟨rfl,_,gives_0 rfl,E0,trivial⟩)))))
theorem zKf (hx:IsW w v n) (hn:n<100):Ret prog 150 #[v] w (fun r _=>r=S (Lib.decDigits n)):=by
 obtain ⟨p,l,c,rfl,hl0⟩:=hx.form;have E0:Ext w w:=Ext.refl w;refine J0 38 func150 rfl (rj fun K=>ag (rm [0] K ?_));refine zA (rJ fun K=>K1 (zJ zX rfl (K8 rfl (rm [0,9] K ?_))));refine K0 rfl ?_ ?_<;>intro hc
 · have hn0:n=0:=hl0.1 (by have:=eq_of_beq hc;omega);clear hc;refine rj fun K=>ag (rm [0,2] K ?_);refine zE (zY (zQ ?_));exact ⟨rfl,_,zm rfl rfl,E0,by rw [hn0,zHi];rfl⟩
 · have hln:l≠0:=fun e=>by subst e;cases hc
   clear hc;refine sk (rj fun K=>ag (rm [0,3] K ?_));refine zA (zG (zo (X:=Nat) (fun k ρ w'=>(k=1∧Keep ρ [(0,.slice p l c),(3,.slice none 0 0)]∧Ext w w'∧IsW w' (.slice p l c) n)∨(k=0∧∃ (q:Value) (b cc:Nat) (cs:List Value),Keep ρ [(0,q),(3,.slice (some ⟨b,0,none⟩) 1 cc)]∧Ext w w'∧IsW w' q 0∧Blk w' b 9 cs∧cs[0]? = some (S (Lib.decDigits n))∧1≤cc)) (fun k=>k) 1 (.inl ⟨rfl,(kp rfl),E0,hx.ext E0⟩) ?_));clear E0;rintro k ρ1 w1 hF;refine zA (zA ?_);rcases hF with ⟨rfl,hk,E0,hA⟩ | ⟨rfl,q,b,cc,cs,hk,E0,hA,hB,hcs,hcc⟩
   · refine wpe_k _ hk ?_;clear hk ρ1;refine rI fun K=>K1 (zJ zX rfl (K8 rfl (rs [0,3,12] K ?_)));refine wct (congrArg Value.bool (decide_eq_true (by omega))) (sk (zG (rJ fun K=>K1 (j0 E0 hb239 (zLY (b:=1000000000000000000) hA (fit_100 hn) (by decide) (by decide)) fun v15 w2 E0 hr => ?_))));obtain ⟨q,rfl,N15⟩:=hr;rw [Nat.div_eq_of_lt (by omega)] at N15;rw [Nat.mod_eq_of_lt (show n<1000000000000000000 by omega)];clear hA;refine mv (xt rfl (xt rfl (ag (ag (rm [0,3,4,5] K ?_)))));refine rJ fun K=>K1 (j1 E0 N15.ext hb240 (fmt_ok hn) fun vi w2 E0 N15 hr => ?_);subst hr;refine ag (rm [0,3,4,6] K ?_);refine zA (rj fun K=>mv ?_);obtain ⟨qp,ql,qc,rfl,hql⟩:=N15.form;have hql0:ql=0:=hql.2 rfl;refine K1 (zJ zX rfl (K8 rfl (rm [0,3,4,6,22] K ?_)));refine wcf (congrArg Value.bool (decide_eq_false (by omega))) (sk (rJ fun K=>mv ?_));refine K1 (zR (cs:=[S (Lib.decDigits n)]) zDY info9' (by decide) (by decide) (by kernel_rfl) fun sb w10 hb hE hBb hs => ?_);replace E0:=E0.trans hE;replace N15:=N15.ext hE;clear hE hb hs;have hnew:=zAa (0+1) 0;refine K1 (zAJ (n:=1) (old:=[]) zDY zDY info9 rfl (by decide) rfl rfl (.inl rfl) rfl (Cells.blk hBb) rfl (by decide) (by omega) fun w11 rest c9 hc9 hE hB9 _ _ => ?_);replace E0:=E0.trans hE;replace N15:=N15.ext hE;clear hE hBb hnew;refine ag (rm [0,3,4] K ?_)
     exact rI fun K=>ag (rl K (zT (zV (⟨rfl,0,.inr ⟨rfl,_,_,_,_,(kp rfl),E0,N15,hB9,rfl,hc9⟩,by omega⟩))))
   · obtain ⟨qp,ql,qc,rfl,hql⟩:=hA.form;have hql0:ql=0:=hql.2 rfl;refine wpe_k _ hk ?_;clear hk ρ1;refine rI fun K=>K1 (zJ zX rfl (K8 rfl (rs [0,3,12] K ?_)));refine wcf (congrArg Value.bool (decide_eq_false (by omega))) (zi (zAE (zv (zP (zN (rJ fun K=>K1 (j1 E0 hB.ext hb242 (rev1_ok) fun vr w2 E0 hB _=>rm [0,3] K ?_)))))));refine rj fun K=>mv ?_;refine K1 (j0 E0 hb243 (join1_ok hB hcs hcc (by have:=zCQ hn;omega)) fun vi w2 E0 hr => ?_);subst hr;refine ag (rm [0,2,3] K ?_);exact zE (en rfl E0 rfl)
theorem zDd (hx:IsNum w v q) (hq1:q.num.natAbs<100) (hq2:q.den<100):Ret prog 64 #[v] w (fun r _=>r=S (textS q)):=by
 obtain ⟨n,d,rfl,hn,hd⟩:=hx;have E0:Ext w w:=Ext.refl w;refine J0 22 func64 rfl (rj fun K => ?_);refine K1 (zk fun b1 w1 hb hE hB1 hs => ?_);have hgb1:w.heap.size≤b1:=by rw [hb];exact E0.size
 replace E0:=E0.trans hE;clear hE hs hb;refine ag (rm [1] K ?_);refine zA ?_;replace hB1:Blk _ b1 37 [.bool (decide (q<0)),n,d]:=hB1;replace hn:=hn.ext E0;replace hd:=hd.ext E0;refine K6 fun K=>K1 (zB zBz rfl (K1 (zD zAf rfl hB1 rfl (K1 (j3 E0 hB1.ext hn.ext hd.ext hb150 (zKf hn hq1) fun vi w2 E0 hB1 hn hd hr => ?_)))));subst hr;refine ag (rs [1,3] K ?_);refine zCJ (fun ρ w'=>Keep ρ [(1,.pointer (some ⟨b1,0,none⟩)),(3,S ((if q<0 then [45] else [])++Lib.decDigits q.num.natAbs))]∧Ext w w'∧Blk w' b1 37 [.bool (decide (q<0)),n,d]∧IsW w' d (if q.den=1 then 0 else q.den)) ?_ ?_
 · refine rj fun K=>K1 (zB zCf rfl (K1 (zD zBm rfl hB1 rfl (rm [1,3,8] K ?_))));refine K0 rfl ?_ ?_<;>intro hc
   · have hneg:q<0:=of_decide_eq_true hc;clear hc;refine K6 fun K=>mv ?_;refine K1 (zDK (a:=[45]) rfl rfl (by have:=zCQ hq1;simp;omega) ?_);refine ag (rl K (zV ?_));exact ⟨rfl,⟨rfl,rfl,rfl,by rw [if_pos hneg];rfl,trivial⟩,E0,hB1,hd⟩
   · have hneg:¬ q<0:=of_decide_eq_false hc;clear hc;refine zz (zV ?_);exact ⟨rfl,⟨rfl,rfl,rfl,by rw [if_neg hneg];rfl,trivial⟩,E0,hB1,hd⟩
 · clear E0 hB1 hd hn;rintro ρ2 w2 ⟨hk,E0,hB1,hd⟩;refine wpe_k _ hk ?_;clear hk ρ2;refine zA (rj fun K=>K1 (zB zEk rfl (K1 (zD zAf rfl hB1 rfl ?_))));obtain ⟨dp,dl,dc,rfl,hdl⟩:=hd.form;refine K1 (zJ zX rfl (K8 rfl (rm [1,3,14] K ?_)));refine K0 rfl ?_ ?_<;>intro hc
   · have hd1:q.den≠1:=fun e=>by
      have h1:dl=0:=hdl.2 (if_pos e);have:=of_decide_eq_true hc;omega
     clear hc;rw [if_neg hd1] at hd;refine rI fun K=>K1 (zB zEk rfl (K1 (zD zAf rfl hB1 rfl (K1 (j0 E0 hb150 (zKf hd hq2) fun vi w2 E0 hr => ?_)))));subst hr;refine K1 (zDK (a:=[47]) rfl rfl (by have:=zCQ hq2;simp;omega) ?_);refine K1 (zDK rfl rfl (by have:=zCQ hq1;have:=zCQ hq2;simp;split<;>simp<;>omega) ?_);refine ag (rs [1,3] K ?_);refine rJ fun K=>ag (rm [1,2] K ?_);refine zE (zQ ?_)
     first
     | exact ⟨rfl,_,zm rfl rfl,E0,by unfold textS;rw [if_neg hd1];rfl⟩
     | exact ⟨rfl,_,zm rfl rfl,E0,by unfold textS;rw [if_pos hd1,List.append_nil];rfl⟩
   · have hd1:q.den=1:=by
      have h1:dl=0:=by have:=of_decide_eq_false hc;omega
      have h2:=hdl.1 h1;have h3:=q.den_pos;split at h2
      · assumption
      · omega
     clear hc;refine sk (rJ fun K=>ag (rm [1,2] K ?_));refine zE (zQ ?_)
     first
     | exact ⟨rfl,_,zm rfl rfl,E0,by unfold textS;rw [if_neg hd1];rfl⟩
     | exact ⟨rfl,_,zm rfl rfl,E0,by unfold textS;rw [if_pos hd1,List.append_nil];rfl⟩
variable {i:Nat} {u:Value}
theorem zBg:prog.underlying 48=some (.slice 2):=by kernel_rfl
theorem zNU:zAZ prog 48 2 1:=by unfold zAZ;exact ⟨by kernel_rfl,by kernel_rfl⟩
theorem info2':(prog.info? 2).map (fun i=>(i.zero,i.size))=some (some (.int .i64 0),1):=by kernel_rfl
theorem plain2:Plain prog 2:=by unfold Plain;exact ⟨by kernel_rfl,by kernel_rfl⟩
theorem zNa:prog.underlying 41=some (.slice 54):=by kernel_rfl
theorem info54':(prog.info? 54).map (fun i=>(i.zero,i.size))=some (some (.agg #[S [],S [],S [],S []]),4):=by kernel_rfl
def intL (l:List Int):Poly:=l.map fun n=>((n:Int):Rat)
theorem intL_take {l:List Int} (h:i<l.length):intL (l.take (i+1))=intL (l.take i)++[((l.getD i 0:Int):Rat)]:=by
 unfold intL;rw [List.take_succ_eq_append_getElem h,List.map_append,List.getD_eq_getElem?_getD,List.getElem?_eq_getElem h];rfl
theorem zIw {x y:Rat}:rcmpI x y=0↔x=y:=by
 constructor
 · intro h;exact Classical.byContradiction fun e=>zLo e h
 · intro h;subst h;unfold rcmpI;rw [if_neg (by grind),if_pos rfl]
theorem zBk {l:List Int} (hB:Blk w b 2 (l.map fun n => .int .i64 n)) (hll:l.length<4096) (hl:∀ n∈l,-9223372036854775808≤n∧n≤9223372036854775807):Ret prog 63 #[.slice (some ⟨b,0,none⟩) l.length l.length] w (fun r w'=>IsOwn w.heap.size w' r (intL l)):=by
 have E0:Ext w w:=Ext.refl w;refine J0 20 func63 rfl (rj fun K=>ag (rm [0] K ?_));refine rj fun K=>ag (rm [0,3] K ?_);refine zA (rj fun K=>ag (rm [0,3,4] K ?_));refine zG (zo (X:=Nat) (fun i ρ w'=>∃ vo,Keep ρ [(0,.slice (some ⟨b,0,none⟩) l.length l.length),(3,vo),(4,.int .i64 (i:Int))]∧i≤l.length∧Ext w w'∧AccP w.heap.size w' vo (intL (l.take i))) (fun i=>l.length-i) 0 ⟨_,(kp rfl),Nat.zero_le _,E0,AccP.nil⟩ ?_);clear E0;rintro i ρ1 w1 ⟨vo,hk,hil,E0,hA⟩;refine wpe_k _ hk ?_;clear hk ρ1;refine zA (rJ fun K=>mv (K1 (zJ zNU rfl (K8 rfl (rm [0,3,4,8] K ?_)))));refine K0 rfl ?_ ?_<;>intro hc
 · have hi:i<l.length:=t_lt hc;clear hc;refine sk (zA (zG (rI fun K=>mv (mv (K1 (zO zNU rfl rfl (by omega) (by omega) ?_))))));have hbd:=hl (l.getD i 0) (by rw [List.getD_eq_getElem?_getD,List.getElem?_eq_getElem hi];exact List.getElem_mem hi);refine K1 (zD (v := .int .i64 (l.getD i 0)) plain2 rfl (hB.ext E0) (by rw [Int.toNat_natCast,Nat.zero_add,Nat.mul_one,List.getElem?_map,List.getD_eq_getElem?_getD,List.getElem?_eq_getElem hi];rfl) ?_);refine K1 (j1 E0 hA.ext hb38 (zBw hbd.1 hbd.2) fun v16 w2 E0 hA N16 => ?_);obtain ⟨n16,d16,rfl,hn16,hd16⟩:=N16;have N16:IsNum _ (.agg #[.bool (decide (((l.getD i 0:Int):Rat)<0)),n16,d16]) ((l.getD i 0:Int):Rat):=⟨_,_,rfl,hn16,hd16⟩;clear hn16 hd16;refine K1 (zR (cs:=[.bool (decide (((l.getD i 0:Int):Rat)<0)),n16,d16]) zAV info37' (by decide) (by decide) (by kernel_rfl) fun sb w10 hb hE hBb hs => ?_);replace E0:=E0.trans hE;replace hA:=hA.ext hE;replace N16:=N16.ext hE;clear hE hb hs;refine K1 (zEo hA rfl hBb N16 (by unfold intL;simp;omega) E0.size fun v18 w11 hX hA2 => ?_);replace E0:=hX.ext (Nat.le_refl _) E0;clear hA hX hBb N16;refine ag (rl K (zT (zN (K5 [0,3,4] ?_))));refine rI fun K=>K1 (zy (b:=1) (i+1) rfl rfl rfl (by omega) (ag (rl K (zV ?_))));exact ⟨rfl,i+1,⟨_,(kp rfl),by omega,E0,by rw [intL_take hi];exact hA2⟩,by omega⟩
 · obtain rfl:i=l.length:=by have:=f_lt hc;omega
   clear hc;rw [List.take_length] at hA;refine zi (zAE (zv (zP (zN (rJ fun K=>ag (rm [0,2,4] K ?_))))));refine zE (zQ ?_);exact ⟨rfl,_,zm rfl rfl,E0,hA.own (by unfold intL;simp;omega)⟩
theorem zDQ {p q:Poly} (hp:zM w u p) (hq:zM w v q) (hr:p.length=q.length→∀ i,i<p.length→rroom (p.getD i 0) (q.getD i 0)=true):Ret prog 21 #[u,v] w (fun r _=>r = .bool (decide (p=q))):=by
 obtain ⟨pp,pc,rfl,hpc,hpP,hpl⟩:=hp;obtain ⟨qp,qc,rfl,hqc,hqP,hql⟩:=hq;have E0:Ext w w:=Ext.refl w;refine J0 27 func21 rfl (rj fun K=>ag (rm [0,1] K ?_));refine zA (rJ fun K=>K1 (zJ zAA rfl (mv (K1 (zJ zAA rfl (K8 rfl (rm [0,1,10] K ?_)))))));refine K0 rfl ?_ ?_<;>intro hc
 · have hne:p.length≠q.length:=by have:=bne_iff_ne.1 hc;omega
   clear hc;refine rj fun K=>ag (rm [0,1,4] K ?_);exact zE (zY (en rfl E0 (congrArg Value.bool (decide_eq_false (fun e=>hne (by rw [e]))).symm)))
 · have hle:p.length=q.length:=by have:=bne_eq_false_iff_eq.1 hc;omega
   clear hc;refine sk (zA (rj fun K=>ag (rm [0,1,5] K ?_)));refine zG (zo (X:=Nat) (fun i ρ w'=>Keep ρ [(0,.slice pp p.length pc),(1,.slice qp q.length qc),(5,.int .i64 (i:Int))]∧i≤p.length∧Ext w w'∧∀ j,j<i→p.getD j 0=q.getD j 0) (fun i=>p.length-i) 0 ⟨(kp rfl),Nat.zero_le _,E0,fun j hj=>absurd hj (by omega)⟩ ?_);clear E0;rintro i ρ1 w1 ⟨hk,hil,E0,heq⟩;refine wpe_k _ hk ?_;clear hk ρ1;refine zA (rJ fun K=>mv (K1 (zJ zAA rfl (K8 rfl (rm [0,1,5,14] K ?_)))));refine K0 rfl ?_ ?_<;>intro hc
   · have hi:i<p.length:=t_lt hc;clear hc;refine sk (zA (zG (zA ?_)));have hpP1:=hpP.ext E0;have hqP1:=hqP.ext E0
     refine zAc [([(0,none)],none),([(5,none)],none),([(17,some 1),(18,some 0)],none),([(19,some 0)],none),([(1,none)],none),([(5,none)],none),([(21,some 1),(22,some 0)],none),([(23,some 0)],none),([(20,some 4),(24,some 0)],none),([(25,some 0)],none)] mixed (by kernel_rfl) (by kernel_rfl) (by kernel_rfl) fun K hK=>dvp (fun σ wx hE hk=>zF ⟨Ext.refl _,hk.1⟩) (dvp (fun σ wx hE hk=>zF ⟨Ext.refl _,hk.1⟩) (dcp (fun v _=>v = .pointer (pp.map fun a=>a.add (3*i))) (fun _ _ _ _ _ h=>h) (fun σ wx hE hk=>zAU (hpP1.ext hE) hk.1 hk.2.1 hi ⟨Ext.refl _,rfl⟩) (dcp (fun v w'=>IsNum w' v (p.getD i 0)) (fun _ _ _ _ hx h=>h.ext hx.toExt) (fun σ wx hE hk=>zAW (hpP1.ext hE) hi hk.1 fun v h=>⟨Ext.refl _,h⟩) (dvp (fun σ wx hE hk=>zF ⟨Ext.refl _,hk.1⟩) (dvp (fun σ wx hE hk=>zF ⟨Ext.refl _,hk.1⟩) (dcp (fun v _=>v = .pointer (qp.map fun a=>a.add (3*i))) (fun _ _ _ _ _ h=>h) (fun σ wx hE hk=>zAU (hqP1.ext hE) hk.1 hk.2.1 (by omega) ⟨Ext.refl _,rfl⟩) (dcp (fun v w'=>IsNum w' v (q.getD i 0)) (fun _ _ _ _ hx h=>h.ext hx.toExt) (fun σ wx hE hk=>zAW (hqP1.ext hE) (by omega) hk.1 fun v h=>⟨Ext.refl _,h⟩) (dvp (fun σ wx hE hk=>zC hb73 (CallK.of_ret (zCn hk.1 hk.2.1 (hr hle i hi)) fun v w2 hX hr=>⟨hX,hr⟩) rfl) (dvp (fun σ wx hE hk=>zH hk.1 rfl rfl ⟨Ext.refl _,rfl⟩) (zAR (hK _ fun wq hE => ?_)))))))))))
     rintro _ rfl _ rfl v19 N19 v20 N20 _ rfl _ rfl v23 N23 v24 N24 _ rfl _ rfl;refine zU ?_;replace E0:=E0.trans hE;clear hE;refine zN (K5 [0,1,5,26] ?_);refine K0 rfl ?_ ?_<;>intro hc
     · have he:p.getD i 0≠q.getD i 0:=fun e=>(bne_iff_ne.1 hc) (zIw.2 e);clear hc;refine rj fun K=>ag (rm [0,1,4,5] K ?_);exact zE (zh (zY (zAr (zh (zY (en rfl E0 (congrArg Value.bool (decide_eq_false (fun e=>he (by rw [e]))).symm)))))))
     · have he:p.getD i 0=q.getD i 0:=zIw.1 (bne_eq_false_iff_eq.1 hc);clear hc;refine zz (zT (zN (rI fun K=>K1 (zy (b:=1) (i+1) rfl rfl rfl (by omega) (ag (rl K (zV ?_)))))));exact ⟨rfl,i+1,⟨(kp rfl),by omega,E0,fun j hj=>by by_cases e:j=i;(rw [e];exact he);exact heq j (by omega)⟩,by omega⟩
   · obtain rfl:i=p.length:=by have:=f_lt hc;omega
     clear hc;refine zi (zAE (zv (zP (zN (rj fun K=>ag (rm [0,1,4,5] K ?_))))));refine zE (zQ ?_);exact ⟨rfl,_,zm rfl rfl,E0,congrArg Value.bool (decide_eq_true (List.ext_getElem hle fun j h1 h2=>by have:=heq j h1;rwa [List.getD_eq_getElem?_getD,List.getD_eq_getElem?_getD,List.getElem?_eq_getElem h1,List.getElem?_eq_getElem h2] at this)).symm⟩
end Go.Proofs.YtjiendlfobjanaaGreatDoor
namespace Go.Proofs.YtjiendlfobjanaaGreatDoor
open Go
variable {k n:Nat}
def padD:Nat→Nat→List UInt8
 | 0,_=>[]
 | k+1,r=>padD k (r/10)++[UInt8.ofNat (48+r%10)]
def dec0 (n:Nat):List UInt8:=if n=0 then [] else Lib.decDigits n
theorem zMp (h:10≤n):Lib.decDigits n=Lib.decDigits (n/10)++[UInt8.ofNat (48+n%10)]:=by
 rw [Lib.decDigits,dif_neg (by omega)]
theorem dec_ne (n:Nat):Lib.decDigits n≠[]:=by
 rw [Lib.decDigits];split
 · simp
 · simp
theorem dec_split (k:Nat):∀ n,10^k≤n→Lib.decDigits n=dec0 (n/10^k)++padD k (n%10^k):=by
 induction k with
 | zero =>
  intro n h;have h0:n≠0:=by have:10^0=1:=rfl;omega
  simp [padD,dec0,h0]
 | succ k ih =>
  intro n h;have e:10^(k+1)=10*10^k:=by rw [Nat.pow_succ,Nat.mul_comm]
  have h1:0<10^k:=Nat.pow_pos (by decide);have h10:10≤n:=by rw [e] at h;omega
  have hq:10^k≤n/10:=by rw [e] at h;omega
  rw [zMp h10,ih _ hq,Nat.div_div_eq_div_mul,← e,List.append_assoc];congr 1;show _=padD k (n%10^(k+1)/10)++[UInt8.ofNat (48+n%10^(k+1)%10)];rw [e,Nat.mod_mul_right_div_self,Nat.mod_mod_of_dvd n (Nat.dvd_mul_right 10 _)]
theorem zKd:∀ k,padD k 0=List.replicate k 48
 | 0=>rfl
 | k+1=>by rw [padD,zKd k,List.replicate_succ'];rfl
theorem zJj:∀ (k r:Nat),0<k→r<10^k→padD k r=List.replicate (k-(Lib.decDigits r).length) 48++Lib.decDigits r∧(Lib.decDigits r).length≤k
 | 0,_,h,_=>absurd h (by decide)
 | k+1,r,_,hr=>by
  by_cases h:r<10
  · have e:Lib.decDigits r=[UInt8.ofNat (48+r)]:=by rw [Lib.decDigits,dif_pos h]
    rw [e,padD,show r/10=0 by omega,show r%10=r by omega,zKd];simp
  · have e:=zMp (n:=r) (by omega);have e2:10^(k+1)=10*10^k:=by rw [Nat.pow_succ,Nat.mul_comm]
    have hk:0<k:=by
     rcases Nat.eq_zero_or_pos k with rfl | hk
     · have:10^(0+1)=10:=rfl;omega
     · exact hk
    obtain ⟨h1,h2⟩:=zJj k (r/10) hk (by rw [e2] at hr;omega);rw [e,padD,h1];simp only [List.length_append,List.length_cons,List.length_nil,List.append_assoc];refine ⟨?_,by omega⟩;rw [show k+1-((Lib.decDigits (r/10)).length+(0+1))=k-(Lib.decDigits (r/10)).length by omega]
theorem dec0_step (hn:n≠0):dec0 n=dec0 (n/10^k)++(if n/10^k=0 then dec0 (n%10^k) else padD k (n%10^k)):=by
 have hp:0<10^k:=Nat.pow_pos (by decide);by_cases h:n/10^k=0
 · have hlt:n<10^k:=(Nat.div_eq_zero_iff_lt hp).1 h;rw [if_pos h,h,Nat.mod_eq_of_lt hlt];simp [dec0]
 · rw [if_neg h];have hle:10^k≤n:=by
    rcases Nat.lt_or_ge n (10^k) with h1 | h1
    · exact absurd (Nat.div_eq_of_lt h1) h
    · exact h1
   rw [← dec_split k n hle,dec0,if_neg hn]
theorem dec_len_le:∀ (k n:Nat),n<10^(k+1)→(Lib.decDigits n).length≤k+1:=fun k n h=>(zJj (k+1) n (Nat.succ_pos k) h).2
theorem zFU (n:Nat):(Lib.decDigits n).length≤n.log2+1:=by
 rcases Nat.eq_zero_or_pos n with rfl | h
 · rw [Lib.decDigits,dif_pos (by decide)];simp
 · refine dec_len_le _ _ ?_;have h1:n<2^(n.log2+1):=Nat.lt_log2_self;exact Nat.lt_of_lt_of_le h1 (Nat.pow_le_pow_left (by decide) _)
theorem dec0_zero:dec0 0=[]:=rfl
theorem zLa (h:n≠0):dec0 n=Lib.decDigits n:=if_neg h
end Go.Proofs.YtjiendlfobjanaaGreatDoor
namespace Go.Proofs.YtjiendlfobjanaaGreatDoor
open Go Go.RowKit Go.Proofs Tryz Go.Shelf Go.Sort
variable {E N b b2 c cap e n o:Nat} {K':Value→World→Prop} {P:Program} {T ty:TypeId} {af:Array Edge} {args:Array Value} {cs:List Value} {f:FuncId} {g:Option (Nat×Bool)} {pos:String} {r:Option Nat} {v:Value} {w w':World} {x y:Operand} {α:Type} {σ:Operand→Value}
def StrB (sz:Nat) (w:World) (v:Value) (ps:List (List UInt8)):Prop :=
 ∃ p c,v = .slice p ps.length c∧ps.length≤c∧((ps=[]∧p=none∧c=0)∨∃ b cs,p=some ⟨b,0,none⟩∧sz≤b∧Blk w b 9 cs∧cs.length=c∧cs.take ps.length=ps.map S)
theorem StrB.nil (sz:Nat) (w:World):StrB sz w (.slice none 0 0) []:=⟨none,0,rfl,Nat.le_refl _,.inl ⟨rfl,rfl,rfl⟩⟩
theorem StrB.ext {sz:Nat} {ps:List (List UInt8)} (h:StrB sz w v ps) (hx:Ext w w'):StrB sz w' v ps:=by
 obtain ⟨p,c,h1,h2,h3⟩:=h;refine ⟨p,c,h1,h2,?_⟩;rcases h3 with h | ⟨b,cs,e1,e2,e3,e4,e5⟩
 · exact .inl h
 · exact .inr ⟨b,cs,e1,e2,e3.ext hx,e4,e5⟩
structure Near (sz:Nat) (w w':World):Prop where
 ext:∀ W:World,W.heap.size=sz→Ext W w→Ext W w'
 words:∀ v n,IsW w v n→IsW w' v n
theorem Near.of_ext {sz:Nat} (h:Ext w w'):Near sz w w':=⟨fun _ _ hx=>hx.trans h,fun _ _ hw=>hw.ext h⟩
theorem Near.of_upd {sz:Nat} (h:Upd b w w') (hB:Blk w b 9 cs) (hs:sz≤b):Near sz w w' :=
 ⟨fun _ e hx=>hx.upd h (by omega),fun _ _ hw=>hw.upd h hB (by decide)⟩
theorem splice_one_take (v:Value) (h:n<cs.length):(zAy cs n [v]).take (n+1)=cs.take n++[v]:=by
 show (cs.set n v).take (n+1)=_;rw [List.take_succ_eq_append_getElem (by rw [List.length_set];exact h),List.take_set_of_le (Nat.le_refl n),List.getElem_set_self]
section laws
variable {K:Value→World→Prop} {d:Option Tmp}
theorem runs_app_str {sz c2:Nat} {ps:List (List UInt8)} {s:List UInt8} (hx:σ x=v) (hA:StrB sz w v ps) (hy:σ y = .slice (some ⟨b2,0,none⟩) 1 c2) (hB:Blk w b2 9 [S s]) (hl:ps.length≤1099511627776) (hs:sz≤w.heap.size)
 (hk:∀ v' w',Near sz w w'→StrB sz w' v' (ps++[s])→K v' w'):Runs prog r ⟨d,.call { callee := .builtin .append,args := #[x,y],argTypes := #[304,304] },ty,pos,af,g⟩ σ w K:=by
 obtain ⟨p,c,h1,h2,h3⟩:=hA;have e:v = .slice p ps.length c:=h1;subst e;by_cases hc:ps.length+1≤c
 · rcases h3 with ⟨_,_,e3⟩ | ⟨b,cs,e1,e2,e3,e4,e5⟩
   · omega
   · subst e1;refine zBM (n:=1) zDY zDY info9 hx hy e3 (Cells.blk hB) rfl hc (by omega) rfl fun w' hU hN=>hk _ _ (Near.of_upd hU e3 e2) ⟨_,c,by simp,by simpa using hc,.inr ⟨b,_,rfl,e2,hN,by rw [zAh];exact e4,?_⟩⟩;rw [Nat.zero_add,Nat.mul_one,List.length_append,show [s].length=1 from rfl,splice_one_take _ (by omega),e5,List.map_append];rfl
 · have hnew:=zAa (ps.length+1) c;have hold:Cells w p 9 (ps.map S):=by
    rcases h3 with ⟨e1,_,_⟩ | ⟨b,cs,e1,e2,e3,e4,e5⟩
    · subst e1;exact .inl rfl
    · exact .inr ⟨b,0,cs,e1,e3,by rw [List.length_map,List.drop_zero];exact e5⟩
   refine zAJ zDY zDY info9 rfl (by decide) hx hy hold (by simp) (Cells.blk hB) rfl (by omega) (by omega) fun w' rest c' g1 hE hB' g2 _=>hk _ _ (Near.of_ext hE) ⟨_,c',by simp,by simpa using g1,.inr ⟨w.heap.size,_,rfl,hs,hB',?_,?_⟩⟩
   · rw [g2];simp [Builtin.zeroCells,Value.cells];omega
   · rw [List.take_append_of_le_length (by simp),List.take_of_length_le (by simp),List.map_append];rfl
theorem runs_toStr {sT dT:Nat} {l:List UInt8} (hS:prog.underlying sT=some (.slice e)) (he:prog.underlying e=some (.int .u8)) (hD:prog.underlying dT=some .string) (hx:σ x = .slice (some ⟨b,o,none⟩) n cap) (hn:n=l.length) (hB:Blk w b T cs)
 (hl:∀ j (h:j<l.length),cs[o+j]? = some (.int .u8 (l[j].toNat:Int))) (hk:K (S l) w):Runs prog r ⟨d,.convert sT dT x,ty,pos,af,g⟩ σ w K:=by
 subst hn;refine zl (fun _ e=>by cases e) ?_ hk;have:=run_convert_bytes_back (P:=prog) w sT dT e ⟨b,o,none⟩ cap l hS he hD (fun j hj=>by rw [zAk,hB.cell];exact hl j hj);simp [execOp,hx,this]
end laws
theorem putCells_list [Inhabited α] (enc:α→Value) (d:Array α) (cs:List Value) (h:d.size≤cs.length):(putCells enc 0 d ⟨cs⟩).toList=d.toList.map enc++cs.drop d.size:=by
 refine List.ext_getElem? fun k => ?_;unfold putCells;rw [Array.getElem?_toList,Array.getElem?_mapIdx];by_cases hk:k<d.size
 · have:cs[k]? = some cs[k]:=by simp
   rw [List.getElem?_append_left (by simpa using hk)];simp [hk,this,getElem!_pos]
 · rw [List.getElem?_append_right (by simp;omega)];simp only [Nat.zero_le,true_and,Nat.zero_add,if_neg hk,List.getElem?_drop,List.length_map,Array.length_toList];rw [show d.size+(k-d.size)=k by omega];simp
theorem zIu [Inhabited α] (enc:α→Value) (d:Array α) (h:Blk w b T cs) (hd:d.size≤cs.length) (w':World) (e:w'=(putRow enc w b 0 d).drewN n∨w'=putRow enc (Go.Sort.ahead w n) b 0 d):Upd b w w'∧Blk w' b T (d.toList.map enc++cs.drop d.size):=by
 have hb:w.heap[b]? = some (.cells ⟨cs⟩ T (0,0)):=h;have hw:w'.heap=w.heap.modify b (onCells (putCells enc 0 d))∧w'.os=w.os∧w'.tape=w.tape∧w'.output=w.output:=by
  rcases e with rfl | rfl<;>exact ⟨rfl,rfl,rfl,rfl⟩
 have hheap:∀ k,w'.heap[k]? = if b=k then (w.heap[k]?).map (onCells (putCells enc 0 d)) else w.heap[k]? := fun k=>by
  rw [hw.1,Array.getElem?_modify]
 have hB':Blk w' b T (d.toList.map enc++cs.drop d.size):=by
  show w'.heap[b]? = _;rw [hheap,if_pos rfl,hb,← putCells_list enc d cs hd];rfl
 refine ⟨⟨hw.2.1,hw.2.2.1,hw.2.2.2,by rw [hw.1];simp,fun k hk=>by rw [hheap,if_neg (Ne.symm hk)],fun T cs' hk => ?_⟩,hB'⟩;obtain ⟨rfl,rfl⟩:=h.inj hk;exact ⟨_,hB'⟩
theorem zKU [Inhabited α] (enc:α→Value) (d:Array α) (h:Blk w b T cs) (hd:cs.take d.size=d.toList.map enc):Holds enc w b 0 d:=fun j hj=>by
 refine ⟨?_,?_⟩
 · rw [Blk.cell h,Nat.zero_add,← List.getElem?_take_of_lt hj,hd];simp [hj]
 · unfold World.frozen?;rw [show w.heap[(⟨b,0+j,none⟩:Addr).block]? = _ from h];simp
theorem zNV:encStr=S:=by funext l;rfl
theorem revS_ok {sz:Nat} {ps:List (List UInt8)} (h:StrB sz w v ps) (hne:ps≠[]) (hl:ps.length≤1099511627776):CallK prog 242 #[v] w (fun _ w'=>Near sz w w'∧StrB sz w' v ps.reverse):=by
 obtain ⟨p,c,rfl,h2,h3⟩:=h;rcases h3 with ⟨e,_⟩ | ⟨b,cs,rfl,e2,e3,e4,e5⟩
 · exact absurd e hne
 · have hc:=Tryz.slices_Reverse_string b 0 c ps w (zKU encStr _ e3 (by rw [zNV];simpa using e5)) (by omega);refine Calls.mono hc ?_;rintro e w' ⟨rfl,n,hw⟩;obtain ⟨hU,hB⟩:=zIu encStr _ e3 (by simp;omega) w' (.inr hw);refine ⟨_,rfl,Near.of_upd hU e3 e2,_,c,by simp,by simpa using h2,.inr ⟨b,_,rfl,e2,hB,?_,?_⟩⟩
   · simp;omega
   · rw [List.take_append_of_le_length (by simp),List.take_of_length_le (by simp),zNV]
theorem join_nil_sep (ps:List (List UInt8)):Lib.join ps []=ps.flatten:=by
 cases ps with
 | nil=>rfl
 | cons x r=>rw [Lib.join_cons];simp [Lib.joinTail]
theorem joinS_ok {sz:Nat} {ps:List (List UInt8)} (h:StrB sz w v ps) (hne:ps≠[]) (hl:ps.length≤1099511627776) (hj:ps.flatten.length≤140737488355328):Ret prog 243 #[v,S []] w (fun r _=>r=S ps.flatten):=by
 obtain ⟨p,c,rfl,h2,h3⟩:=h;rcases h3 with ⟨e,_⟩ | ⟨b,cs,rfl,e2,e3,e4,e5⟩
 · exact absurd e hne
 · have hm:(ps.map fun l=>(⟨l.toArray⟩:ByteArray)).map (·.data.toList)=ps:=by
    rw [List.map_map]
    conv=>rhs;rw [← List.map_id ps]
    exact List.map_congr_left fun l _=>by simp
   have hjj:Lib.join ((ps.map fun l=>(⟨l.toArray⟩:ByteArray)).map (·.data.toList)) (⟨#[]⟩:ByteArray).data.toList=ps.flatten:=by
    rw [hm];exact join_nil_sep ps
   have:=Tryz.strings_Join b 0 c (ps.map fun l=>⟨l.toArray⟩) ⟨#[]⟩ w (fun j y hy=>by
    have hjl:j<ps.length:=by
     have:=(List.getElem?_eq_some_iff.1 hy).1;simpa using this
    rw [Blk.cell e3,Nat.zero_add,← List.getElem?_take_of_lt hjl,e5];simp only [List.getElem?_map] at hy ⊢;cases hp:ps[j]? with
    | none=>rw [hp] at hy;cases hy
    | some l=>rw [hp] at hy;cases hy;rfl) e3.lt (by simp;omega) (by simpa using h2) (by rw [hjj];exact hj)
   rw [hjj,List.length_map] at this;exact this.mono fun e w' ⟨he,hw⟩=>⟨_,he,hw,rfl⟩
theorem zIy:∀ n,Lib.repeatL [48] n=List.replicate n (48:UInt8)
 | 0=>rfl
 | n+1=>by rw [Lib.repeatL,zIy n];rfl
theorem row_num {u v':Nat} {dk:Array UInt8} (h:Lib.FmtInv (Lib.nDigits u) u 0 v' dk) (j:Nat) (hj:j<(Lib.decDigits u).length):(Lib.decDigits u)[j]=dk[j]! := by
 have hl:j<Lib.nDigits u:=by rw [Lib.decDigits_length] at hj;exact hj
 rw [h.done j (Nat.zero_le _) hl];simp only [Lib.decDigits_eq u,List.getElem_map,List.getElem_range]
theorem repeat0_ok (hc:c≤100):Ret prog 241 #[S [48],.int .i64 (c:Int)] w (fun r _=>r=S (List.replicate c 48)):=by
 have:=Tryz.strings_Repeat ⟨[48].toArray⟩ c w (by omega) (by show 1*c≤_;omega);have e:Lib.repeatL (⟨[48].toArray⟩:ByteArray).data.toList c=List.replicate c 48:=zIy c;rw [e] at this;exact this.mono fun e w' ⟨he,hw⟩=>⟨_,he,hw,rfl⟩
def Pow10 (w:World):Prop:=Lib.TabIs prog w "internal/strconv.uint64pow10" .u64 Lib.pow10Tab
theorem Pow10.ext (h:Pow10 w) (hx:Ext w w'):Pow10 w':=by
 unfold Pow10 Lib.TabIs World.var? at *;cases hg:prog.globalNamed "internal/strconv.uint64pow10" with
 | none=>rw [hg] at h;cases h
 | some g =>
  rw [hg] at h;simp only [Option.bind_some] at h ⊢;cases ho:w.heap[g]? with
  | none=>rw [ho] at h;simp at h
  | some o=>rw [hx.heap ho];rw [ho] at h;exact h
theorem CallK.weak {K:Value→World→Prop} (h:CallK P f args w K) (hk:∀ v w',K v w'→K' v w'):CallK P f args w K':=by
 unfold CallK at *;exact Calls.mono h fun _ _ ⟨v,e,q⟩=>⟨v,e,hk v _ q⟩
theorem fmt10_ok {u:Nat} (hB:Blk w b 380 (List.replicate 24 (.int .u8 0))) (h1:1≤u) (h2:u<18446744073709551616):CallK prog 333 #[.slice (some ⟨b,0,none⟩) (Lib.nDigits u) 24,.int .u64 (u:Int)] w (fun _ w'=>Upd b w w'∧∃ cs,Blk w' b 380 cs∧∀ j (h:j<(Lib.decDigits u).length),cs[0+j]? = some (.int .u8 ((Lib.decDigits u)[j].toNat:Int))):=by
 have hnd:Lib.nDigits u≤20:=by have:=Lib.numDigits_eq u h1 h2;split at this<;>omega
 have hH:=zKU (fun (b:UInt8)=>Value.int .u8 (b.toNat:Int)) (Array.replicate (Lib.nDigits u) 0) hB (by rw [Array.size_replicate,List.take_replicate,Nat.min_eq_left (by omega)];simp);have hc:=Tryz.internal_strconv_formatBase10 b 0 24 u (Array.replicate (Lib.nDigits u) 0) w hH (by rw [Array.size_replicate];exact Lib.lt_pow_nDigits u) h2 (by rw [Array.size_replicate];omega);rw [Array.size_replicate] at hc;refine Calls.mono hc ?_;rintro e w' ⟨rfl,n,v',dk,hw,hF⟩;have hsz:=hF.size;obtain ⟨hU,hB'⟩:=zIu _ dk hB (by rw [hsz];simp;omega) w' (.inl hw);refine ⟨_,rfl,hU,_,hB',fun j hj => ?_⟩;have hj':j<dk.size:=by rw [hsz];rw [Lib.decDigits_length] at hj;exact hj
 rw [Nat.zero_add,List.getElem?_append_left (by simpa using hj'),row_num hF j hj,getElem!_pos dk j hj'];simp [hj']
theorem zMZ:prog.underlying 380=some (.array 24 5):=by kernel_rfl
theorem zero380:((prog.info? 380).bind (·.zero))=some (.agg (Array.replicate 24 (.int .u8 0))):=by kernel_rfl
theorem numDigits_ok {u:Nat} (h1:1≤u) (h2:u<18446744073709551616) (hP:Pow10 w):Ret prog 332 #[.int .u64 (u:Int)] w (fun r _=>r = .int .i64 (Lib.nDigits u)) :=
 (Tryz.internal_strconv_numDigits u h1 h2 w hP).mono fun e w' ⟨he,hw⟩=>⟨_,he,by rw [hw];exact Ext.refl w,rfl⟩
theorem zIz {K:Value→World→Prop} {d:Option Tmp} {T h:Nat} {hi:Operand} (hT:P.underlying T=some (.array N E)) (hE:(P.info? E).map (·.size)=some 1) (hx:σ x = .pointer (some ⟨b,0,none⟩)) (hh:σ hi = .int .i64 (h:Int)) (hn:h≤N) (hk:K (.slice (some ⟨b,0,none⟩) h N) w):Runs P r ⟨d,.slice T x none (some hi) none,ty,pos,af,g⟩ σ w K:=by
 refine zl (fun _ e=>by cases e) ?_ hk;have hl:P.arrayLen T=N:=by simp [Program.arrayLen,hT]
 cases hi:P.info? E with
 | none=>rw [hi] at hE;cases hE
 | some i =>
  rw [hi] at hE;simp at hE;simp only [execOp,Option.map_none,Option.map_some,hx,hh];have hh2:=run_sliceAt_array_h (P:=P) w T ⟨b,0,none⟩ (by simp [Program.arrayLen,Program.elem,hT]) .i64 (h:Int) (by omega) (by rw [hl];omega);simp [Program.elem,hT,sizeOf,typeInfo,hi,hE,slicedAt,hl] at hh2;simp [hh2,zAk]
end Go.Proofs.YtjiendlfobjanaaGreatDoor
namespace Go.Proofs.YtjiendlfobjanaaGreatDoor
open Go Go.RowKit Go.Proofs Tryz
set_option maxRecDepth 10000
set_option maxHeartbeats 2000000
attribute [local irreducible] Runs WPE CallK Ret
variable {i n:Nat} {q:Rat} {v:Value} {w:World}
def Fine (n:Nat):Prop:=n.log2<1000000000
theorem Fine.fit (h:Fine n):Fit n:=Nat.lt_trans h (by decide)
theorem Fine.len (h:Fine n):(Lib.decDigits n).length≤1000000000:=Nat.le_trans (zFU n) h
theorem Fine.le {m:Nat} (h:Fine n) (hm:m≤n):Fine m:=by
 unfold Fine at *;rcases Nat.eq_zero_or_pos m with rfl | hp
 · decide
 · exact Nat.lt_of_le_of_lt ((Nat.le_log2 (by omega)).2 (Nat.le_trans ((Nat.le_log2 (by omega)).1 (Nat.le_refl _)) hm)) h
theorem ndigits_le {u:Nat} (h1:1≤u) (h2:u<18446744073709551616):Lib.nDigits u≤20:=by have:=Lib.numDigits_eq u h1 h2;split at this<;>omega
theorem under109m:prog.underlying 109=some (.slice 5):=by kernel_rfl
theorem under5m:prog.underlying 5=some (.int .u8):=by kernel_rfl
theorem size5:(prog.info? 5).map (·.size)=some 1:=by kernel_rfl
theorem fmt2_all (h:i<18446744073709551616) (hP:Pow10 w):Ret prog 298 #[.int .u64 (i:Int),.int .i64 10] w (fun r _=>r=S (Lib.decDigits i)):=by
 refine J0 32 func298 rfl (rj fun K=>ag (rm [0,1] K ?_));refine zA (rJ fun K=>K8 rfl (rm [0,1,10] K ?_));refine wct rfl (zA (rJ fun K=>K8 rfl (rm [0,12] K ?_)));refine K0 rfl ?_ ?_<;>intro hc
 · have h100:i<100:=by have:=of_decide_eq_true hc;omega
   clear hc;refine rJ fun K=>K1 (zCi under164' under3' rfl ?_);rw [show IntKind.i64.wrap (i:Int)=(i:Int) from zAG (by omega) (by omega)];refine K1 (j0 E0 hb331 (zKr h100) fun vi w2 E0 hr => ?_);subst hr;refine ag (rm [4] K ?_);exact zE (zY (zY (en rfl E0 rfl)))
 · have h100:100≤i:=by have:=of_decide_eq_false hc;omega
   clear hc;refine sk (rj fun K => ?_);refine K1 (zK zero380 fun b w1 hb hE hB hs => ?_);replace E0:=E0.trans hE;replace hP:=hP.ext hE;clear hE hs;have hge:w.heap.size≤b:=by omega
   clear hb;replace hB:Blk _ b 380 (List.replicate 24 (.int .u8 0)):=hB;refine rm [0,5] K ?_;refine rJ fun K=>K1 (j1 E0 hB.ext hb332 (numDigits_ok (by omega) h hP) fun vi w2 E0 hB hr => ?_);subst hr;refine ag (rm [0,5,6] K ?_);refine rj fun K=>mv ?_;have hnd:=ndigits_le (by omega) h;refine K1 (zIz zMZ size5 rfl rfl (by omega) (mv (K1 (zC hb333 (CallK.weak (fmt10_ok hB (by omega) h) fun vr w2 hr => ?_) rfl))));obtain ⟨hU,cs,hB2,hcs⟩:=hr;replace E0:=E0.upd hU hge;clear hU hB hP;refine rm [5,6] K ?_;refine rJ fun K=>K1 (zIz zMZ size5 rfl rfl (by omega) (K1 (runs_toStr under109m under5m zBF rfl (Lib.decDigits_length i).symm hB2 hcs (ag (rm [4] K ?_)))));exact zE (zY (en rfl E0 rfl))
theorem fmt_all (h:i<18446744073709551616) (hP:Pow10 w):Ret prog 240 #[.int .u64 (i:Int),.int .i64 10] w (fun r _=>r=S (Lib.decDigits i)):=by
 refine J0 8 func240 rfl (rj fun K=>ag (rm [0,1] K ?_));refine rJ fun K=>mv (K1 (j0 E0 hb298 (fmt2_all h hP) fun vi w2 E0 hr => ?_));subst hr;refine ag (rm [4] K ?_);exact zE (en rfl E0 rfl)
theorem dec0_step18 (hn:n≠0):dec0 n=dec0 (n/1000000000000000000)++(if n/1000000000000000000=0 then dec0 (n%1000000000000000000) else padD 18 (n%1000000000000000000)):=dec0_step (k:=18) hn
theorem padD_dec18 {r:Nat} (h:r<1000000000000000000):padD 18 r=List.replicate (18-(Lib.decDigits r).length) 48++Lib.decDigits r∧(Lib.decDigits r).length≤18:=zJj 18 r (by decide) h
theorem grp_le {m:Nat} {ps:List (List UInt8)} {s:List UInt8} (h:2^(8*ps.length)*m≤n):2^(8*(ps++[s]).length)*(m/1000000000000000000)≤n:=by
 refine Nat.le_trans ?_ h;rw [List.length_append,List.length_singleton,Nat.mul_add,Nat.pow_add,Nat.mul_assoc];refine Nat.mul_le_mul_left _ ?_;omega
theorem zNA {m:Nat} {ps:List (List UInt8)} (hm:m≠0) (h:2^(8*ps.length)*m≤n):8*ps.length≤n.log2:=by
 have h1:2^(8*ps.length)≤n:=Nat.le_trans (Nat.le_mul_of_pos_right _ (by omega)) h;have h2:0<2^(8*ps.length):=Nat.pow_pos (by decide);exact (Nat.le_log2 (by omega)).2 h1
theorem zNO (hx:IsW w v n) (hn:Fine n) (hP:Pow10 w):Ret prog 150 #[v] w (fun r _=>r=S (Lib.decDigits n)):=by
 obtain ⟨p,l,c,rfl,hl0⟩:=hx.form;have E0:Ext w w:=Ext.refl w;refine J0 38 func150 rfl (rj fun K=>ag (rm [0] K ?_));refine zA (rJ fun K=>K1 (zJ zX rfl (K8 rfl (rm [0,9] K ?_))));refine K0 rfl ?_ ?_<;>intro hc
 · have hn0:n=0:=hl0.1 (by have:=eq_of_beq hc;omega);clear hc;refine rj fun K=>ag (rm [0,2] K ?_);refine zE (zY (zQ ?_));exact ⟨rfl,_,zm rfl rfl,E0,by rw [hn0,zHi];rfl⟩
 · have hn0:n≠0:=fun e=>by rw [hl0.2 e] at hc;cases hc
   clear hc;refine sk (rj fun K=>ag (rm [0,3] K ?_));refine zA (zG (zo (X:=Nat×List (List UInt8)) (fun (x:Nat×List (List UInt8)) ρ w'=>∃ va vp,Keep ρ [(0,va),(3,vp)]∧Ext w w'∧IsW w' va x.1∧StrB w.heap.size w' vp x.2∧dec0 x.1++x.2.reverse.flatten=dec0 n∧2^(8*x.2.length)*x.1≤n∧8*x.2.length≤n.log2+8) (fun x=>x.1) (n,[]) ⟨_,_,(kp rfl),E0,hx.ext E0,StrB.nil _ _,by simp,by simp,by simp⟩ ?_));clear E0;rintro ⟨m,ps⟩ ρ1 w1 ⟨va,vp,hk,E0,hA,hS,hd,hle,hps⟩;dsimp only at hA hS hd hle hps;obtain ⟨p1,l1,c1,rfl,hl1⟩:=hA.form;refine wpe_k _ hk ?_;clear hk ρ1;refine zA (rJ fun K=>K1 (zJ zX rfl (K8 rfl (rm [0,3,12] K ?_))));refine K0 rfl ?_ ?_<;>intro hc
   · have hm:m≠0:=fun e=>by have h1:=hl1.2 e;have:=of_decide_eq_true hc;omega
     clear hc;refine sk (zG (rj fun K=>mv ?_));have hmn:m≤n:=Nat.le_trans (Nat.le_mul_of_pos_left _ (Nat.pow_pos (by decide))) hle;have hpl:ps.length≤1099511627776:=by have:=zNA hm hle;have:n.log2<1000000000:=hn;omega
     refine K1 (j1 E0 hS.ext hb239 (zLY (b:=1000000000000000000) hA (hn.le hmn).fit (by decide) (by decide)) fun v15 w2 E0 hS hr => ?_);obtain ⟨q,rfl,N15⟩:=hr;replace N15:IsW _ q (m/1000000000000000000):=N15;clear hA hl1 hmn;refine mv (xt rfl (xt rfl (ag (ag (rm [0,3,4,5] K ?_)))));refine rJ fun K=>K1 (j2 E0 N15.ext hS.ext hb240 (fmt_all (Nat.lt_of_lt_of_le (Nat.mod_lt m (by decide)) (by decide)) (hP.ext E0)) fun vi w2 E0 N15 hS hr => ?_);subst hr;obtain ⟨qp,ql,qc,rfl,hql⟩:=N15.form;refine ag (rm [0,3,4,6] K ?_);refine zCJ (fun ρ w'=>Keep ρ [(3,vp),(4,.slice qp ql qc),(6,S (if m/1000000000000000000=0 then dec0 (m%1000000000000000000) else padD 18 (m%1000000000000000000)))]∧Ext w w'∧IsW w' (.slice qp ql qc) (m/1000000000000000000)∧StrB w.heap.size w' vp ps) ?_ ?_
     · refine rJ fun K=>K1 (zJ zX rfl (K8 rfl (rm [0,3,4,6,22] K ?_)));refine K0 rfl ?_ ?_<;>intro hc
       · have hq:m/1000000000000000000≠0:=fun e=>by have h1:=hql.2 e;have:=of_decide_eq_true hc;omega
         clear hc;obtain ⟨hpad,hlen⟩:=padD_dec18 (Nat.mod_lt m (by decide));refine rI fun K=>K1 (zAe zBF rfl (K1 (zAS (a:=18) (b:=(Lib.decDigits (m%1000000000000000000)).length) (18-(Lib.decDigits (m%1000000000000000000)).length) rfl rfl (by omega) (by omega) (K1 (j2 E0 N15.ext hS.ext hb241 (repeat0_ok (by omega)) fun vi w2 E0 N15 hS hr => ?_)))));subst hr;refine mv ?_;refine K1 (zDK rfl rfl (by simp;omega) ?_);refine ag (rl K (zV ?_));exact ⟨rfl,⟨rfl,rfl,rfl,rfl,rfl,by rw [if_neg hq,hpad];rfl,trivial⟩,E0,N15,hS⟩
       · have hq:m/1000000000000000000=0:=hql.1 (by have:=of_decide_eq_false hc;omega);clear hc;refine zz (zV ?_);exact ⟨rfl,⟨rfl,rfl,rfl,rfl,rfl,by rw [if_pos hq,zLa (fun e=>hm (by have:=Nat.div_add_mod m 1000000000000000000;rw [hq,e] at this;exact this.symm))];rfl,trivial⟩,E0,N15,hS⟩
     · clear E0 N15 hS hql;rintro ρ2 w2 ⟨hk,E0,N15,hS⟩;refine wpe_k _ hk ?_;clear hk ρ2;refine rJ fun K=>mv ?_;refine K1 (zR (cs:=[S (if m/1000000000000000000=0 then dec0 (m%1000000000000000000) else padD 18 (m%1000000000000000000))]) zDY info9' (by decide) (by decide) (by kernel_rfl) fun sb w10 hb hE hBb hs => ?_);replace E0:=E0.trans hE;replace N15:=N15.ext hE;replace hS:=hS.ext hE;clear hE hb hs;refine K1 (runs_app_str rfl hS rfl hBb hpl E0.size fun v' w' hN hS => ?_);replace E0:=hN.ext _ rfl E0;replace N15:=hN.words _ _ N15;clear hBb hN;refine ag (rm [3,4] K ?_);refine rI fun K=>ag (rl K (zT (zV (⟨rfl,(m/1000000000000000000,ps++[if m/1000000000000000000=0 then dec0 (m%1000000000000000000) else padD 18 (m%1000000000000000000)]),⟨_,_,(kp rfl),E0,N15,hS,?_,?_,?_⟩,?_⟩))))
       · rw [List.reverse_append,List.reverse_singleton,List.singleton_append,List.flatten_cons,← List.append_assoc,← dec0_step18 hm];exact hd
       · exact grp_le hle
       · have:=zNA hm hle;simp;omega
       · show m/1000000000000000000<m;exact Nat.div_lt_self (by omega) (by decide)
   · have hm:m=0:=hl1.1 (by have:=of_decide_eq_false hc;omega);clear hc;subst hm;rw [dec0_zero,List.nil_append,zLa hn0] at hd;have hne:ps≠[]:=fun e=>by subst e;exact dec_ne n hd.symm
     have hfl:ps.reverse.flatten.length≤1000000000:=by rw [hd];exact hn.len
     have hpl:ps.length≤1099511627776:=by have:n.log2<1000000000:=hn;omega
     clear hle hps hA hl1;refine zi (zAE (zv (zP (zN (rJ fun K=>K1 (zC hb242 (CallK.weak (revS_ok hS hne hpl) fun vr w2 hr => ?_) rfl))))));obtain ⟨hN,hS⟩:=hr;replace E0:=hN.ext _ rfl E0;clear hN;refine rm [0,3] K ?_;refine rJ fun K=>K1 (j0 E0 hb243 (joinS_ok hS (by simpa using hne) (by simpa using hpl) (by omega)) fun vi w2 E0 hr => ?_);subst hr;refine ag (rm [0,2] K ?_);refine zE (zQ ?_);exact ⟨rfl,_,zm rfl rfl,E0,by rw [hd];rfl⟩
theorem zJV (hx:IsNum w v q) (hq1:Fine q.num.natAbs) (hq2:Fine q.den) (hP:Pow10 w):Ret prog 64 #[v] w (fun r _=>r=S (textS q)):=by
 obtain ⟨n,d,rfl,hn,hd⟩:=hx;have E0:Ext w w:=Ext.refl w;refine J0 22 func64 rfl (rj fun K => ?_);refine K1 (zk fun b1 w1 hb hE hB1 hs => ?_);have hgb1:w.heap.size≤b1:=by rw [hb];exact E0.size
 replace E0:=E0.trans hE;clear hE hs hb;refine ag (rm [1] K ?_);refine zA ?_;replace hB1:Blk _ b1 37 [.bool (decide (q<0)),n,d]:=hB1;replace hn:=hn.ext E0;replace hd:=hd.ext E0;refine K6 fun K=>K1 (zB zBz rfl (K1 (zD zAf rfl hB1 rfl (K1 (j3 E0 hB1.ext hn.ext hd.ext hb150 (zNO hn hq1 (hP.ext E0)) fun vi w2 E0 hB1 hn hd hr => ?_)))));subst hr;refine ag (rs [1,3] K ?_);refine zCJ (fun ρ w'=>Keep ρ [(1,.pointer (some ⟨b1,0,none⟩)),(3,S ((if q<0 then [45] else [])++Lib.decDigits q.num.natAbs))]∧Ext w w'∧Blk w' b1 37 [.bool (decide (q<0)),n,d]∧IsW w' d (if q.den=1 then 0 else q.den)) ?_ ?_
 · refine rj fun K=>K1 (zB zCf rfl (K1 (zD zBm rfl hB1 rfl (rm [1,3,8] K ?_))));refine K0 rfl ?_ ?_<;>intro hc
   · have hneg:q<0:=of_decide_eq_true hc;clear hc;refine K6 fun K=>mv ?_;refine K1 (zDK (a:=[45]) rfl rfl (by have:=hq1.len;simp;omega) ?_);refine ag (rl K (zV ?_));exact ⟨rfl,⟨rfl,rfl,rfl,by rw [if_pos hneg];rfl,trivial⟩,E0,hB1,hd⟩
   · have hneg:¬ q<0:=of_decide_eq_false hc;clear hc;refine zz (zV ?_);exact ⟨rfl,⟨rfl,rfl,rfl,by rw [if_neg hneg];rfl,trivial⟩,E0,hB1,hd⟩
 · clear E0 hB1 hd hn;rintro ρ2 w2 ⟨hk,E0,hB1,hd⟩;refine wpe_k _ hk ?_;clear hk ρ2;refine zA (rj fun K=>K1 (zB zEk rfl (K1 (zD zAf rfl hB1 rfl ?_))));obtain ⟨dp,dl,dc,rfl,hdl⟩:=hd.form;refine K1 (zJ zX rfl (K8 rfl (rm [1,3,14] K ?_)));refine K0 rfl ?_ ?_<;>intro hc
   · have hd1:q.den≠1:=fun e=>by
      have h1:dl=0:=hdl.2 (if_pos e);have:=of_decide_eq_true hc;omega
     clear hc;rw [if_neg hd1] at hd;refine rI fun K=>K1 (zB zEk rfl (K1 (zD zAf rfl hB1 rfl (K1 (j0 E0 hb150 (zNO hd hq2 (hP.ext E0)) fun vi w2 E0 hr => ?_)))));subst hr;refine K1 (zDK (a:=[47]) rfl rfl (by have:=hq2.len;simp;omega) ?_);refine K1 (zDK rfl rfl (by have:=hq1.len;have:=hq2.len;simp;split<;>simp<;>omega) ?_);refine ag (rs [1,3] K ?_);refine rJ fun K=>ag (rm [1,2] K ?_);refine zE (zQ ?_)
     first
     | exact ⟨rfl,_,zm rfl rfl,E0,by unfold textS;rw [if_neg hd1];rfl⟩
     | exact ⟨rfl,_,zm rfl rfl,E0,by unfold textS;rw [if_pos hd1,List.append_nil];rfl⟩
   · have hd1:q.den=1:=by
      have h1:dl=0:=by have:=of_decide_eq_false hc;omega
      have h2:=hdl.1 h1;have h3:=q.den_pos;split at h2
      · assumption
      · omega
     clear hc;refine sk (rJ fun K=>ag (rm [1,2] K ?_));refine zE (zQ ?_)
     first
     | exact ⟨rfl,_,zm rfl rfl,E0,by unfold textS;rw [if_neg hd1];rfl⟩
     | exact ⟨rfl,_,zm rfl rfl,E0,by unfold textS;rw [if_pos hd1,List.append_nil];rfl⟩
end Go.Proofs.YtjiendlfobjanaaGreatDoor
namespace Go.Proofs.YtjiendlfobjanaaGreatDoor
open Go Go.RowKit Go.Proofs Tryz
set_option maxRecDepth 10000
set_option maxHeartbeats 2000000
variable {b:Nat} {w:World}
def aT:BandT:=⟨[48],[49],[51,47,52],[49]⟩
theorem a1:zJa 3=some ([15,15,6,1],0):=by decide +kernel
theorem a2:zEG [15,15,6,1]=some ([1/6,12/25,5/6],0):=by decide +kernel
theorem a3:zLk (intL [-1,0,1])=some ([],180):=by decide +kernel
theorem a4:zKX (intL [1]) (intL [1,1]) [aT] 5=some (0,1,0):=by decide +kernel
theorem a5:intL [15,15,6,1]=[15,15,6,1]:=by decide +kernel
theorem d10 (n:Nat) (h:n<10):Lib.decDigits n=[UInt8.ofNat (48+n)]:=by unfold Lib.decDigits;rw [dif_pos h]
theorem a6:textS (12/25)=[49,50,47,50,53]:=by
 have e1:(12/25:Rat).num.natAbs=12:=by decide +kernel
 have e2:(12/25:Rat).den=25:=by decide +kernel
 have e3:¬ (12/25:Rat)<0:=by decide +kernel
 unfold textS;rw [e1,e2,if_neg e3,if_neg (by decide)];unfold Lib.decDigits;rw [dif_neg (by decide),dif_neg (by decide),d10 _ (by decide),d10 _ (by decide)];rfl
theorem a7:textS 1=[49]:=by
 have e1:(1:Rat).num.natAbs=1:=by decide +kernel
 have e2:(1:Rat).den=1:=by decide +kernel
 have e3:¬ (1:Rat)<0:=by decide +kernel
 unfold textS;rw [e1,e2,if_neg e3,if_pos rfl,d10 _ (by decide)];rfl
theorem a8:∀ i,i<4→rroom (([15,15,6,1]:Poly).getD i 0) (([15,15,6,1]:Poly).getD i 0)=true:=by decide +kernel
theorem mask1 {t:BandT} (hB:Blk w b 54 (zEY t)):zCp w (.slice (some ⟨b,0,none⟩) 1 1) [t] :=
 ⟨_,1,rfl,.inr ⟨b,0,_,rfl,hB,by simp [zEY],fun i t' h=>by
  have:i=0:=by have:=(List.getElem?_eq_some_iff.1 h).1;simp at this;omega
  subst this;simp at h;subst h;rfl⟩⟩
theorem aLen:∀ (i:Nat) (t:BandT),([aT]:List BandT)[i]? = some t→t.lo.length<1000000000∧t.hi.length<1000000000∧t.least.length<1000000000∧t.most.length<1000000000:=fun i t ht=>by
 have h0:i=0:=by have:=(List.getElem?_eq_some_iff.1 ht).1;simp at this;omega
 subst h0;simp at ht;subst ht;decide
end Go.Proofs.YtjiendlfobjanaaGreatDoor
namespace Go.Proofs.YtjiendlfobjanaaGreatDoor
open Go Go.RowKit Go.Proofs Tryz
set_option maxRecDepth 10000
set_option maxHeartbeats 2000000
attribute [local irreducible] Runs WPE CallK Ret
variable {w:World}
theorem Awake_ok:Ret prog 14 #[] w (fun r _=>r = .bool true):=by
 refine J0 77 func14 rfl (rj fun K=>ag (rm [] K ?_));refine rj fun K=>K1 (j0 E0 hb32 (zKC a1) fun v11 w2 E0 hr => ?_);obtain ⟨u12,rfl,N12⟩:=hr;replace N12:zM _ u12 [15,15,6,1]:=N12.poly;refine mv (xt rfl (xt rfl (ag (ag (rm [1,2] K ?_)))));refine rJ fun K=>K1 (j1 E0 N12.ext hb16 (zFS N12 a2) fun v16 w2 E0 N12 hr => ?_);obtain ⟨u17,rfl,N17⟩:=hr;replace N17:zM _ u17 [1/6,12/25,5/6]:=N17.poly;refine mv (xt rfl (xt rfl (ag (ag (rm [1,2,3,4] K ?_)))));refine rj fun K => ?_;refine K1 (zR (cs:=[.int .i64 (-1),.int .i64 0,.int .i64 1]) zBg info2' (by decide) (by decide) (by kernel_rfl) fun x1 w10 hb hE hBx1 hs => ?_);replace E0:=E0.trans hE;replace N12:=N12.ext hE;replace N17:=N17.ext hE;clear hE hb hs;refine K1 (j2 E0 N12.ext N17.ext hb63 (zBk (l:=[-1,0,1]) hBx1 (by decide) (by decide)) fun v21 w2 E0 N12 N17 N21 => ?_);clear hBx1;have N21:=N21.poly;refine K1 (j2 E0 N12.ext N17.ext hb17 (zKD N21 a3) fun v22 w2 E0 N12 N17 hr => ?_);obtain ⟨u23,rfl,-⟩:=hr
 try clear N21
 refine mv (xt rfl (xt rfl (ag (ag (rm [1,2,3,4,6] K ?_)))));refine rj fun K => ?_;refine K1 (zR (cs:=[.int .i64 1]) zBg info2' (by decide) (by decide) (by kernel_rfl) fun x2 w10 hb hE hBx2 hs => ?_);replace E0:=E0.trans hE;replace N12:=N12.ext hE;replace N17:=N17.ext hE;clear hE hb hs;refine K1 (j2 E0 N12.ext N17.ext hb63 (zBk (l:=[1]) hBx2 (by decide) (by decide)) fun v27 w2 E0 N12 N17 N27 => ?_);clear hBx2;have N27:=N27.poly;refine K1 (zR (cs:=[.int .i64 1,.int .i64 1]) zBg info2' (by decide) (by decide) (by kernel_rfl) fun x3 w10 hb hE hBx3 hs => ?_);replace E0:=E0.trans hE;replace N12:=N12.ext hE;replace N17:=N17.ext hE;replace N27:=N27.ext hE;clear hE hb hs;refine K1 (j3 E0 N12.ext N17.ext N27.ext hb63 (zBk (l:=[1,1]) hBx3 (by decide) (by decide)) fun v29 w2 E0 N12 N17 N27 N29 => ?_);clear hBx3;have N29:=N29.poly;refine K1 (zj (cs:=(zEY aT).toArray) (by kernel_rfl) ?_);refine K1 (zR (cs:=zEY aT) zNa info54' (by decide) (by decide) (by kernel_rfl) fun xm w10 hb hE hBm hs => ?_);replace E0:=E0.trans hE;replace N12:=N12.ext hE;replace N17:=N17.ext hE;replace N27:=N27.ext hE;replace N29:=N29.ext hE;clear hE hb hs;refine K1 (j2 E0 N12.ext N17.ext hb29 (zLO (fuel:=5) N27 N29 (mask1 hBm) aLen (by decide) a4) fun v32 w2 E0 N12 N17 hr => ?_);obtain ⟨u34,rfl,N34⟩:=hr;clear N27 N29 hBm;refine mv (xt rfl (xt rfl (xt rfl ?_)))
 refine K1 (zK zAP fun gb w7 hb hE hBg hs => ?_);have hgg:w.heap.size≤gb:=by rw [hb];exact E0.size
 have hX:Ext _ _:=hE;replace E0:=E0.trans hE;replace N34:=N34.ext hE;clear hE;refine ag (K1 (zI rfl N34 (Cell3.of hBg rfl) fun _ w9 hU hNA => ?_));replace E0:=E0.upd hU hgg;replace N12:=N12.updN hX hU hBg (by omega);replace N17:=N17.updN hX hU hBg (by omega);clear hU hBg N34 hX hb hs;refine ag (rm [1,2,3,4,6,7,8,9] K ?_);refine rJ fun K=>K8 rfl (mv (K7 (K2 (zH rfl rfl rfl (pc0 rfl (mv (K7 (K2 (zH rfl rfl rfl (pc0 rfl (mv (K7 (K2 (zH rfl rfl rfl (pc0 rfl ?_)))))))))))))));refine mv (K7 ?_);refine K2 (zR (cs:=[.int .i64 15,.int .i64 15,.int .i64 6,.int .i64 1]) zBg info2' (by decide) (by decide) (by kernel_rfl) fun x4 w10 hb hE hBx4 hs => ?_);replace E0:=E0.trans hE;replace N12:=N12.ext hE;replace N17:=N17.ext hE;replace hNA:=hNA.ext hE;clear hE hb hs;refine K2 (j3 E0 N12.ext N17.ext hNA.ext hb63 (zBk (l:=[15,15,6,1]) hBx4 (by decide) (by decide)) fun v53 w2 E0 N12 N17 hNA N53 => ?_);clear hBx4;have N53:=N53.poly;rw [a5] at N53;refine K2 (j3 E0 N12.ext N17.ext hNA.ext hb21 ((zDQ N12 N53 (fun _ i hi=>a8 i hi)).mono fun _ _ _ h=>h.trans (congrArg Value.bool (decide_eq_true rfl))) fun vi w2 E0 N12 N17 hNA hr => ?_);subst hr;refine pc0 rfl (mv (K7 ?_));obtain ⟨qp,qc,rfl,hqc,hqP,hql⟩:=N17
 refine K2 (zJ zAA rfl (K2 (zH rfl rfl rfl (pc0 rfl (mv (K7 (K2 (zAU (ix:=1) hqP rfl rfl (by decide) (K2 (zAW (i:=1) hqP (by decide) rfl fun v64 N64 => ?_))))))))));replace N64:IsNum _ v64 (12/25):=N64;refine K2 (j1 E0 hNA.ext hb64 ((zDd N64 (by decide +kernel) (by decide +kernel)).mono fun _ _ _ h=>h.trans (congrArg S a6)) fun vi w2 E0 hNA hr => ?_);subst hr;refine K2 (zAs rfl rfl (pc0 rfl (mv (K7 (K2 (zH rfl rfl rfl (pc0 rfl (mv (K2 (zL rfl hNA fun v73 N73=>K2 (j0 E0 hb64 ((zDd N73 (by decide +kernel) (by decide +kernel)).mono fun _ _ _ h=>h.trans (congrArg S a7)) fun vi w2 E0 hr => ?_)))))))))));subst hr;refine K2 (zAs rfl rfl (pc0 rfl (ag (rm [0] K ?_))));exact zE (en rfl E0 rfl)
end Go.Proofs.YtjiendlfobjanaaGreatDoor
namespace Go.Proofs.YtjiendlfobjanaaGreatDoor.R
open Go Go.RowKit Go.Proofs Tryz
end Go.Proofs.YtjiendlfobjanaaGreatDoor.R
namespace Go.Proofs.YtjiendlfobjanaaGreatDoor.R
open Go Go.RowKit Go.Proofs Tryz
set_option maxRecDepth 10000
set_option maxHeartbeats 2000000
attribute [local irreducible] Runs WPE CallK Ret
variable {P:Program} {a:Nat} {af:Array Edge} {g:Option (Nat×Bool)} {pos:String} {r:Option Nat} {t' ty:TypeId} {w:World} {x y:Operand} {σ:Operand→Value}
section laws
variable {K:Value→World→Prop} {d:Option Tmp} {t:TypeId}
end laws

section laws
variable {K:Value→World→Prop} {d:Option Tmp}
end laws
end Go.Proofs.YtjiendlfobjanaaGreatDoor.R
namespace Go.Proofs.YtjiendlfobjanaaGreatDoor.R
open Go Go.RowKit Go.Proofs Tryz
attribute [local irreducible] Runs WPE CallK Ret
end Go.Proofs.YtjiendlfobjanaaGreatDoor.R
namespace Go.Proofs.YtjiendlfobjanaaGreatDoor.R
open Go Go.RowKit Go.Proofs Tryz
set_option maxRecDepth 10000
set_option maxHeartbeats 2000000
attribute [local irreducible] Runs WPE CallK Ret
end Go.Proofs.YtjiendlfobjanaaGreatDoor.R
namespace Go.Proofs.YtjiendlfobjanaaGreatDoor.R
open Go Go.RowKit Go.Proofs Tryz
variable {af:Array Edge} {g:Option (Nat×Bool)} {pos:String} {r:Option Nat} {ty:TypeId} {w:World} {σ:Operand→Value}
section laws
variable {d:Option Tmp}
end laws
end Go.Proofs.YtjiendlfobjanaaGreatDoor.R
namespace Go.Proofs.YtjiendlfobjanaaGreatDoor
open Go Go.RowKit Go.Proofs Tryz
theorem all2 {α:Type} {p:α→Prop} {a b:α} (h1:p a) (h2:p b):∀ s∈[a,b],p s:=fun s hs=>by
 rcases List.mem_cons.1 hs with rfl | hs
 · exact h1
 · rw [List.mem_singleton.1 hs];exact h2
theorem Ext.updSS {S:List Nat} {w w1 w2:World} (h:Ext w w1) (hS:ExtS S w1 w2) (hb:∀ b∈S,w.heap.size≤b):Ext w w2 :=
 ⟨hS.os.trans (Below.os h),hS.tape.trans (Below.tape h),hS.output.trans (Below.output h),Nat.le_trans h.size hS.size,fun k hk=>(hS.block k (Nat.lt_of_lt_of_le hk h.size) (fun hm=>by have:=hb k hm;omega)).trans (Below.block h k hk)⟩
end Go.Proofs.YtjiendlfobjanaaGreatDoor
namespace Go.Proofs.YtjiendlfobjanaaGreatDoor
open Go Go.RowKit Go.Proofs Tryz
set_option maxRecDepth 10000
set_option maxHeartbeats 2000000
attribute [local irreducible] Runs WPE CallK Ret
variable {P:Program} {af:Array Edge} {g:Option (Nat×Bool)} {pos:String} {r:Option Nat} {ty:TypeId} {w:World} {σ:Operand→Value}
section laws
variable {K:Value→World→Prop} {d:Option Tmp}
end laws
end Go.Proofs.YtjiendlfobjanaaGreatDoor
namespace Go.Proofs.YtjiendlfobjanaaGreatDoor.R
open Go Go.RowKit Go.Proofs Tryz
set_option maxRecDepth 10000
set_option maxHeartbeats 2000000
attribute [local irreducible] Runs WPE CallK Ret
end Go.Proofs.YtjiendlfobjanaaGreatDoor.R
namespace Go.Proofs.YtjiendlfobjanaaGreatDoor.R
open Go Go.RowKit Go.Proofs Tryz
variable {af:Array Edge} {g:Option (Nat×Bool)} {pos:String} {r:Option Nat} {ty:TypeId} {w:World} {σ:Operand→Value}
section laws
variable {K:Value→World→Prop} {d:Option Tmp}
end laws
end Go.Proofs.YtjiendlfobjanaaGreatDoor.R
namespace Go.Proofs.YtjiendlfobjanaaGreatDoor.R
open Go Go.RowKit Go.Proofs Tryz
set_option maxRecDepth 10000
set_option maxHeartbeats 2000000
attribute [local irreducible] Runs WPE CallK Ret
variable {af:Array Edge} {g:Option (Nat×Bool)} {pos:String} {r:Option Nat} {ty:TypeId} {w:World} {σ:Operand→Value}
section laws
variable {K:Value→World→Prop} {d:Option Tmp}
end laws
section laws
variable {K:Value→World→Prop} {d:Option Tmp}
end laws
section laws
variable {K:Value→World→Prop} {d:Option Tmp}
end laws
end Go.Proofs.YtjiendlfobjanaaGreatDoor.R
namespace Go.Proofs.YtjiendlfobjanaaGreatDoor
open Go Go.RowKit Go.Proofs Tryz Go.Shelf Go.Sort
variable {b c i k:Nat} {cs:List Value} {q:Rat} {w:World}
def revRen:Go.Shelf.Ren:=⟨fun | 35=>98 | n=>n,fun | 22=>25 | 23=>37 | 0=>0 | 3=>3 | 4=>4 | n=>n,fun n=>n⟩
theorem revLays:SlLaysE0.n35 prog revRen:={
 mixed:=by kernel_rfl
 f35:=⟨Tryz.f98.name,by kernel_rfl,func98.trans (congrArg some (by kernel_rfl))⟩
 t0:=Tryz.underlying0
 a0:=Tryz.isAgg0
 z0:=Tryz.sizeOf0
 v0:=Tryz.zeroValue0
 t3:=Tryz.underlying3
 a3:=Tryz.isAgg3
 z3:=Tryz.sizeOf3
 v3:=Tryz.zeroValue3
 t4:=Tryz.underlying4
 a4:=Tryz.isAgg4
 z4:=Tryz.sizeOf4
 v4:=Tryz.zeroValue4
 t22:=Tryz.underlying25
 a22:=Tryz.isAgg25
 z22:=Tryz.sizeOf25
 v22:=Tryz.zeroValue25 }
abbrev C3:=Bool×(Option Addr×Nat×Nat)×(Option Addr×Nat×Nat)
def enc3 (x:C3):List Value:=[.bool x.1,.slice x.2.1.1 x.2.1.2.1 x.2.1.2.2,.slice x.2.2.1 x.2.2.2.1 x.2.2.2.2]
theorem num_enc {l:List Value} (h:IsNum w (.agg l.toArray) q):∃ x,l=enc3 x:=by
 obtain ⟨n,d,e,⟨p,ds,c,rfl,_⟩,⟨p',ds',c',rfl,_⟩⟩:=h;refine ⟨(decide (q<0),(p,ds.length,c),(p',ds'.length,c')),?_⟩;have h1:=Value.agg.inj e;exact congrArg Array.toList h1
theorem zIV (hk:k<3) (hl:3*i+3≤cs.length):((cs.drop (3*i)).take 3)[k]? = cs[3*i+k]? := by
 rw [List.getElem?_take,if_pos hk,List.getElem?_drop]
theorem Rev_ok {l:Poly} (hB:PBlk w b l) (hl:l.length≤4096):CallK prog 98 #[.slice (some ⟨b,0,none⟩) l.length c] w (fun _ w'=>Upd b w w'∧PBlk w' b l.reverse):=by
 obtain ⟨cs,h1,h2,h3⟩:=hB;have hx:∀ i:Fin l.length,∃ x,(cs.drop (3*i.1)).take 3=enc3 x:=fun i=>num_enc (h3 i.1 i.2);obtain ⟨d,hd,hdi⟩:∃ d:Array C3,d.size=l.length∧∀ i,(h:i<l.length)→(cs.drop (3*i)).take 3=enc3 d[i]! := by
  refine ⟨Array.ofFn fun i=>Classical.choose (hx i),by simp,fun i h => ?_⟩;rw [getElem!_pos _ i (by simpa using h),Array.getElem_ofFn];exact Classical.choose_spec (hx ⟨i,h⟩)
 have hcell:∀ i k,i<l.length→k<3→cs[3*i+k]? = some (enc3 d[i]!)[k]! := fun i k hi hk=>by
  rw [← zIV hk (by omega),hdi i hi,getElem!_pos _ k (by exact hk),List.getElem?_eq_getElem (by exact hk)]
 have hH:HoldsK enc3 3 w b 0 d:=fun j hj=>by
  rw [size_flatK,hd] at hj;rw [get_flatK _ _ _ _ (by rw [hd];exact hj),Nat.zero_add];refine ⟨?_,?_⟩
  · rw [Blk.cell h1];have:=hcell (j/3) (j%3) (by omega) (by omega);rw [show 3*(j/3)+j%3=j by omega] at this;exact this
  · unfold World.frozen?;rw [show w.heap[(⟨b,j,none⟩:Addr).block]? = _ from h1];simp
 have hc:=AnyQ.slices_Reverse revLays 3 Tryz.isAgg37 Tryz.sizeOf37 enc3 (fun _=>rfl) (fun x v hv=>by
  unfold enc3 at hv;simp only [List.mem_cons,List.not_mem_nil,or_false] at hv;rcases hv with rfl | rfl | rfl<;>rfl) b 0 c d w hH (by omega)
 rw [hd] at hc;refine Calls.mono hc ?_;rintro e w' ⟨rfl,n,rfl⟩;refine ⟨_,rfl,?_⟩;have hb:w.heap[b]? = some (.cells ⟨cs⟩ 37 (0,0)):=h1;have hheap:∀ k,(putRowK enc3 3 (Go.Sort.ahead w n) b 0 d.reverse).heap[k]? = if b=k then (w.heap[k]?).map (onCells (putCells id 0 (flatK enc3 3 d.reverse))) else w.heap[k]? := fun k=>by
  show (w.heap.modify b _)[k]? = _;rw [Array.getElem?_modify]
 have hB':Blk (putRowK enc3 3 (Go.Sort.ahead w n) b 0 d.reverse) b 37 (putCells id 0 (flatK enc3 3 d.reverse) ⟨cs⟩).toList:=by
  show _=_;rw [hheap,if_pos rfl,hb];rfl
 have hU:Upd b w (putRowK enc3 3 (Go.Sort.ahead w n) b 0 d.reverse):=⟨rfl,rfl,rfl,by show (w.heap.modify b _).size=_;simp,fun k hk=>by rw [hheap,if_neg (Ne.symm hk)],fun T cs' hk=>by
  obtain ⟨rfl,rfl⟩:=h1.inj hk;exact ⟨_,hB'⟩⟩
 refine ⟨hU,_,hB',?_,fun i hi => ?_⟩
 · rw [List.length_reverse];simp [putCells,h2]
 · rw [List.length_reverse] at hi;have e:(((putCells id 0 (flatK enc3 3 d.reverse) ⟨cs⟩).toList.drop (3*i)).take 3)=(cs.drop (3*(l.length-1-i))).take 3:=by
    have hlen:(putCells id 0 (flatK enc3 3 d.reverse) ⟨cs⟩).toList.length=cs.length:=by simp [putCells]
    refine List.ext_getElem? fun k => ?_;by_cases hk:k<3
    · rw [zIV hk (by rw [hlen];omega),zIV hk (by omega),hcell _ k (by omega) hk];have:(putCells id 0 (flatK enc3 3 d.reverse) ⟨cs⟩).toList[3*i+k]? = some (flatK enc3 3 d.reverse)[3*i+k]! := by
       rw [Array.getElem?_toList];unfold putCells;rw [Array.getElem?_mapIdx];have hh:((⟨cs⟩:Array Value)[3*i+k]?).isSome:=by simp;omega
       obtain ⟨z,hz⟩:=Option.isSome_iff_exists.1 hh;rw [hz,Option.map_some,if_pos ⟨Nat.zero_le _,by rw [size_flatK,Array.size_reverse,hd];omega⟩];rfl
      rw [this,get_flatK _ _ _ _ (by rw [Array.size_reverse,hd];omega),show (3*i+k)/3=i by omega,show (3*i+k)%3=k by omega];rw [getElem!_pos d.reverse i (by rw [Array.size_reverse,hd];exact hi),Array.getElem_reverse,getElem!_pos d (l.length-1-i) (by omega)];simp only [hd]
    · rw [List.getElem?_eq_none (by simp;omega),List.getElem?_eq_none (by simp;omega)]
   rw [e];have:=(h3 (l.length-1-i) (by omega)).upd hU h1 (by decide);have e2:l.reverse.getD i 0=l.getD (l.length-1-i) 0:=by
    rw [List.getD_eq_getElem?_getD,List.getD_eq_getElem?_getD,List.getElem?_reverse hi]
   rw [e2];exact this
end Go.Proofs.YtjiendlfobjanaaGreatDoor
namespace Go.Proofs.YtjiendlfobjanaaGreatDoor
variable {a:Nat}
def high (p:Poly):Poly×Int:=if 41<(trim p).length then ([],3) else if trim p=[] then ([],8) else (trim (trim p).reverse,0)
def denL (w:Rat):Poly→Rat→Option Poly
 | [],_=>some []
 | c :: p,f=>(rdiv c f).bind fun x=>(rmul f w).bind fun g=>(denL w p g).bind fun r=>some (x :: r)
def zKL (p:Poly) (w:Rat):Option (Poly×Int):=if 41<(trim p).length then some ([],3) else if 0<w then (denL w (trim p) 1).map fun l=>(l,0) else some ([],7)
def Qt (a:Nat) (w:Rat):Prop:=∃ D z:Int,D≠0∧w*D=z∧D.natAbs≤2^a∧z.natAbs≤2^a
theorem qt_sz {w:Rat} (h:Qt a w):sz w≤2*(a+1):=by
 obtain ⟨D,z,h1,h2,h3,h4⟩:=h;exact sz_of h1 h2 (by rw [Nat.pow_succ];omega) (by rw [Nat.pow_succ];omega)
theorem qt_inv {w:Rat} (hw:w≠0) (h:Qt a w):Qt a (1/w):=by
 obtain ⟨D,z,h1,h2,h3,h4⟩:=h;have hD:=ne_cast h1;have hz:(z:Rat)≠0:=by rw [← h2];intro e;rcases Rat.mul_eq_zero.1 e with e | e<;>contradiction
 exact ⟨z,D,fun e=>hz (by rw [e];rfl),by rw [← h2];grind,h4,h3⟩
end Go.Proofs.YtjiendlfobjanaaGreatDoor
namespace Go.Proofs.YtjiendlfobjanaaGreatDoor
open Go Go.RowKit Go.Proofs Tryz
set_option maxRecDepth 10000
set_option maxHeartbeats 2000000
attribute [local irreducible] Runs WPE CallK Ret
variable {K':Value→World→Prop} {P:Program} {af:Array Edge} {args:Array Value} {cap i ix:Nat} {cv v:Value} {f:FuncId} {g:Option (Nat×Bool)} {l:List Rat} {p:Option Addr} {pos:String} {r:Option Nat} {ty:TypeId} {w w':World} {x:Operand} {σ:Operand→Value}
theorem CallK.imp {K:Value→World→Prop} (h:CallK P f args w K) (hk:∀ v w',K v w'→K' v w'):CallK P f args w K':=by
 unfold CallK at *;exact Calls.mono h fun _ _ ⟨v,e,q⟩=>⟨v,e,hk v _ q⟩
theorem High_ok {p:Poly} (hp:zM w v p):Ret prog 35 #[v] w (fun r w'=>∃ u,r = .tuple #[u,.int .i64 (high p).2]∧IsOwn w.heap.size w' u (high p).1):=by
 have E0:Ext w w:=Ext.refl w;refine J0 15 func35 rfl (rj fun K=>ag (ag (rm [0] K ?_)));refine zA (rJ fun K=>K1 (j1 E0 hp.ext hb79 (zFu hp) fun vi w2 E0 hp hr => ?_));subst hr;refine rm [0,5] K ?_;refine K0 rfl ?_ ?_<;>intro hc
 · have h41:41<(trim p).length:=of_decide_eq_true hc;clear hc;rw [show high p=([],3) from by unfold high;rw [if_pos h41]];refine rj fun K=>ag (ag (rm [2,3] K ?_));exact zE (zY (zQ ⟨rfl,_,zn rfl rfl rfl,E0,_,rfl,IsOwn.nil⟩))
 · have h41:¬ 41<(trim p).length:=of_decide_eq_false hc;clear hc;refine sk (rj fun K=>mv ?_);have hsz:=E0.size;refine K1 (j0 E0 hb34 (zBZ hp) fun v7 w2 E0 N7 => ?_);obtain ⟨tp,tc,rfl,htc,hTR,htl,hto⟩:=N7;refine ag (rm [0] K ?_);refine zA (rJ fun K=>K1 (zJ zAA rfl (K8 rfl (rm [0,10] K ?_))));refine K0 rfl ?_ ?_<;>intro hc
   · have h0:trim p=[]:=List.eq_nil_of_length_eq_zero (by have:=eq_of_beq hc;omega);clear hc;rw [show high p=([],8) from by unfold high;rw [if_neg h41,if_pos h0]];refine rj fun K=>ag (ag (rm [2,3] K ?_));exact zE (zY (zQ ⟨rfl,_,zn rfl rfl rfl,E0,_,rfl,IsOwn.nil⟩))
   · have h0:trim p≠[]:=fun e=>by rw [e] at hc;cases hc
     clear hc;rw [show high p=(trim (trim p).reverse,0) from by unfold high;rw [if_neg h41,if_neg h0]];refine sk (zA ?_);obtain ⟨tb,rfl,hgt⟩:=hto h0;have hge:w.heap.size≤tb:=Nat.le_trans hsz hgt;have hTB:=hTR.blk h0;clear hTR hgt;refine rI fun K=>K1 (zC hb98 (CallK.imp (Rev_ok hTB htl) fun vr w2 hr => ?_) rfl);obtain ⟨hU,hTB⟩:=hr;replace E0:=E0.upd hU hge;clear hU;have hTP:zM w2 (.slice (some ⟨tb,0,none⟩) (trim p).length tc) (trim p).reverse:=⟨_,tc,by rw [List.length_reverse],by rw [List.length_reverse];exact htc,hTB.rd,by rw [List.length_reverse];exact htl⟩;clear hTB hsz;have hsz:=E0.size;refine rs [0] K ?_;refine rJ fun K=>K1 (j0 E0 hb34 (zBZ hTP) fun v14 w2 E0 N14=>ag (ag (rm [2,3] K ?_)));exact zE (zQ ⟨rfl,_,zn rfl rfl rfl,E0,_,rfl,N14.sz hsz⟩)
theorem zMF (x:Rat):rsign x≤0↔¬ 0<x:=by
 by_cases h0:x=0
 · subst h0;decide
 · rcases rsign_cases h0 with ⟨h1,h2⟩ | ⟨h1,h2⟩
   · rw [h2];exact ⟨fun e=>by omega,fun e=>absurd h1 e⟩
   · rw [h2];exact ⟨fun _=>by grind,fun _=>by decide⟩
theorem above1_ok {x:Rat} (hx:IsNum w v x):Ret prog 190 #[v] w (fun r _=>r = .bool (decide (¬ 0<x))):=by
 have hx0:=hx;obtain ⟨xn,xd,rfl,hxn,hxd⟩:=hx0;refine J0 6 func190 rfl (rj fun K => ?_);refine K1 (zk fun b1 w1 hb hE hB1 hs => ?_);have hgb1:w.heap.size≤b1:=by rw [hb];exact E0.size
 replace E0:=E0.trans hE;replace hx:=hx.ext hE;clear hE hs hb;refine ag (rm [1] K ?_);refine zA ?_;have hNX:NumAt b1 x _:=⟨_,hB1,rfl,hx⟩;refine K6 fun K=>K1 (zL rfl hNX fun v3 N3=>K1 (j0 E0 hb19 (zAY N3) fun vi w2 E0 hr => ?_));subst hr;refine K8 rfl (ag (rs [2] K ?_));exact zE (en rfl E0 (congrArg Value.bool (decide_eq_decide.2 (by rw [zMF]))))
def PRA (w:World) (p:Option Addr) (l:List Rat):Prop:=∀ i,i<l.length→∃ b o T cs,p=some ⟨b,o,none⟩∧Blk w b T cs∧o+3*i+3≤cs.length∧IsNum w (.agg ((cs.drop (o+3*i)).take 3).toArray) (l.getD i 0)
theorem PRA.ext (h:PRA w p l) (hx:Ext w w'):PRA w' p l:=fun i hi=>by
 obtain ⟨b,o,T,cs,h1,h2,h3,h4⟩:=h i hi;exact ⟨b,o,T,cs,h1,h2.ext hx,h3,h4.ext hx⟩
def zJR (w:World) (v:Value) (l:List Rat):Prop:=∃ p cap,v = .slice p l.length cap∧l.length≤cap∧PRA w p l∧l.length≤4096
theorem zM.toA (h:zM w v l):zJR w v l:=by
 obtain ⟨p,c,h1,h2,h3,h4⟩:=h;exact ⟨p,c,h1,h2,fun i hi=>(let ⟨b,o,cs,e1,e2,e3,e4⟩:=h3.at hi;⟨b,o,37,cs,e1,e2,e3,e4⟩),h4⟩
section laws
variable {K:Value→World→Prop} {d:Option Tmp}
theorem runs_ploadA (hP:PRA w p l) (hi:i<l.length) (hx:σ x = .pointer (p.map fun a=>a.add (3*i))) (hk:∀ v,IsNum w v (l.getD i 0)→K v w):Runs prog r ⟨d,.load 37 x,ty,pos,af,g⟩ σ w K:=by
 obtain ⟨b,o,T,cs,h1,h2,h3,h4⟩:=hP i hi;rw [h1] at hx;exact zAK (o:=o+3*i) (by rw [hx];simp [zAk]) h2 h3 h4 hk
theorem runs_pindexA {i:Operand} {k:IntKind} (hP:PRA w p l) (hx:σ x = .slice p l.length cap) (hi:σ i = .int k (ix:Int)) (h1:ix<l.length) (hk:K (.pointer (p.map fun a=>a.add (3*ix))) w):Runs prog r ⟨d,.indexAddr 25 x i,ty,pos,af,g⟩ σ w K:=by
 obtain ⟨b,o,T,cs,e1,h2,h3,h4⟩:=hP ix h1;subst e1;refine zO zAA hx hi (by omega) (by omega) ?_;rw [show o+((ix:Nat):Int).toNat*3=o+3*ix from by omega];simpa [zAk] using hk
end laws
theorem zHl {l:Poly} (h:i<l.length):l.drop i=l.getD i 0 :: l.drop (i+1):=by
 rw [List.drop_eq_getElem_cons h];simp [h]
theorem IndexN_ok {c:Poly} {pr:Rat→Bool} (hc:zJR w cv c) (hf:zAq prog f) (hsig:∀ i,i<c.length→∀ (w':World) (v:Value),Ext w w'→IsNum w' v (c.getD i 0)→Ret prog f #[v] w' (fun u _=>u = .bool (pr (c.getD i 0)))):Ret prog 265 #[cv,.func (.func f) #[] #[]] w (fun u _=>u = .int .i64 (idxL pr c 0)):=by
 obtain ⟨cp,cc,rfl,hcc,hC,hcl⟩:=hc;have E0:Ext w w:=Ext.refl w;refine J0 19 func265 rfl (rj fun K=>ag (rm [0,1] K ?_));refine zA (rJ fun K=>K1 (zJ zAA rfl (mv (rm [0,1,7,8] K ?_))));refine zG (zo (X:=Nat) (fun i ρ w'=>Keep ρ [(0,.slice cp c.length cc),(1,.func (.func f) #[] #[]),(7,.int .i64 (c.length:Nat)),(8,.int .i64 (i:Nat))]∧i≤c.length∧Ext w w'∧idxL pr (c.drop i) i=idxL pr c 0) (fun i=>c.length-i) 0 ⟨(kp rfl),Nat.zero_le _,E0,rfl⟩ ?_);clear E0;rintro i ρ1 w1 ⟨hk,hil,E0,hI⟩;refine wpe_k _ hk ?_;clear hk ρ1;refine rj fun K=>K8 rfl (rm [0,1,7,8,9] K ?_);refine zA ?_;refine K0 rfl ?_ ?_<;>intro hc
 · have hlt:i<c.length:=t_lt hc;clear hc;have hC1:=hC.ext E0;rw [zHl (by omega),idxL] at hI;refine sk (zA (zG (rJ fun K=>ag (rm [0,1,5,7,8] K ?_))));refine rJ fun K=>mv (mv (K1 (runs_pindexA (l:=c) hC1 rfl rfl hlt (K1 (runs_ploadA hC1 hlt rfl fun v15 N15=>K1 (zBU rfl hf (CallK.of_ret (hsig i hlt _ v15 E0 N15) fun v19 w2 hE hr => ?_)))))));subst hr;replace E0:=E0.trans hE;clear hE N15 hC1;refine rm [0,1,5,7,8,16] K ?_;refine K0 rfl ?_ ?_<;>intro hc
   · have hcc2:pr (c.getD i 0)=true:=hc;clear hc;rw [if_pos hcc2] at hI;refine rJ fun K=>ag (rm [0,1,4,7,8] K ?_);refine zE (zh (zY (zAr (zh (zY (zQ ?_))))));exact ⟨rfl,_,zm rfl rfl,E0,by rw [← hI];rfl⟩
   · have hcc2:pr (c.getD i 0)=false:=hc;clear hc;rw [if_neg (by rw [hcc2];decide)] at hI;exact zz (zT (zN (K6 fun K=>K8 rfl (mv (rl K (zV (⟨rfl,i+1,⟨⟨rfl,rfl,rfl,rfl,rfl,rfl,rfl,congrArg (Value.int .i64) (zAD (by omega)),trivial⟩,by omega,E0,hI⟩,by omega⟩)))))))
 · have hge:=f_lt hc;obtain rfl:i=c.length:=by omega
   clear hc;rw [List.drop_eq_nil_of_le (by omega),idxL] at hI;refine zi (zAE (zv (zP (zN (rj fun K=>ag (rm [0,1,4,7,8] K ?_))))));refine zE (zQ ?_);exact ⟨rfl,_,zm rfl rfl,E0,by rw [← hI];rfl⟩
theorem ContainsN_ok {c:Poly} {pr:Rat→Bool} (hc:zJR w cv c) (hf:zAq prog f) (hsig:∀ i,i<c.length→∀ (w':World) (v:Value),Ext w w'→IsNum w' v (c.getD i 0)→Ret prog f #[v] w' (fun u _=>u = .bool (pr (c.getD i 0)))):Ret prog 189 #[cv,.func (.func f) #[] #[]] w (fun u _=>u = .bool (c.any pr)):=by
 refine J0 9 func189 rfl (rj fun K=>ag (rm [0,1] K ?_));refine rJ fun K=>mv (K1 (j0 E0 hb265 (IndexN_ok hc hf hsig) fun vi w2 E0 hr => ?_));subst hr;refine K8 rfl (ag (rm [4] K ?_));refine zE (zQ ?_);exact ⟨rfl,_,zm rfl rfl,E0,congrArg Value.bool (by
  rcases @zFF _ pr c 0 with ⟨e1,e2⟩ | ⟨e1,e2,e3⟩
  · rw [e2];exact decide_eq_false (by omega)
  · rw [e3];exact decide_eq_true (by omega))⟩
theorem above_okA {p:Poly} (hp:zJR w v p):Ret prog 99 #[v] w (fun u _=>u = .bool (!(p.any fun x=>decide (¬ 0<x)))):=by
 refine J0 6 func99 rfl (rj fun K=>ag (rm [0] K ?_));refine rJ fun K=>K1 (j0 E0 hb189 (ContainsN_ok (pr:=fun x=>decide (¬ 0<x)) hp hb190 fun i hi w2 v hE hv=>above1_ok hv) fun vi w2 E0 hr => ?_);subst hr;refine K1 (zAF rfl (ag (rm [2] K ?_)));exact zE (en rfl E0 rfl)
theorem zCc {p:Poly} (hp:zM w v p):Ret prog 99 #[v] w (fun u _=>u = .bool (!(p.any fun x=>decide (¬ 0<x)))):=above_okA hp.toA
variable {u:Value}
theorem Denorm_ok {p:Poly} {x:Rat} {R:Poly×Int} (hp:zM w v p) (hx:IsNum w u x) (h0:trim p≠[]) (h:zKL p x=some R):Ret prog 36 #[v,u] w (fun r w'=>∃ t,r = .tuple #[t,.int .i64 R.2]∧IsOwn w.heap.size w' t R.1):=by
 obtain ⟨xn,xd,rfl,hxn,hxd⟩:=hx;have hx:IsNum w (.agg #[.bool (decide (x<0)),xn,xd]) x:=⟨_,_,rfl,hxn,hxd⟩;clear hxn hxd;have E0:Ext w w:=Ext.refl w;refine J0 38 func36 rfl (rj fun K => ?_);refine K1 (zk fun b1 w1 hb hE hB1 hs => ?_);have hgb1:w.heap.size≤b1:=by rw [hb];exact E0.size
 replace E0:=E0.trans hE;replace hp:=hp.ext hE;replace hx:=hx.ext hE;clear hE hs hb;refine ag (ag (rm [0,3] K ?_));refine zA (zG (zA ?_));have hNX:NumAt b1 x _:=⟨_,hB1,rfl,hx⟩;clear hB1 hx;refine rI fun K=>K1 (j2 E0 hp.ext hNX.ext hb79 (zFu hp) fun vi w2 E0 hp hNX hr => ?_);subst hr;refine ag (rs [0,3,8] K ?_);refine K0 rfl ?_ ?_<;>intro hc
 · have h41:41<(trim p).length:=of_decide_eq_true hc;clear hc;obtain rfl:R=([],3):=by unfold zKL at h;rw [if_pos h41] at h;exact (Option.some.inj h).symm
   refine rj fun K=>ag (ag (rm [0,3,4,5] K ?_));exact zE (zh (zY (zQ ⟨rfl,_,zn rfl rfl rfl,E0,_,rfl,IsOwn.nil⟩)))
 · have h41:¬ 41<(trim p).length:=of_decide_eq_false hc;clear hc;refine rj fun K=>K1 (zL rfl hNX fun v12 N12 => ?_);obtain ⟨n12,d12,rfl,hn12,hd12⟩:=N12;have N12:IsNum _ (.agg #[.bool (decide (x<0)),n12,d12]) x:=⟨_,_,rfl,hn12,hd12⟩;clear hn12 hd12;refine K1 (zR (cs:=[.bool (decide (x<0)),n12,d12]) zAV info37' (by decide) (by decide) (by kernel_rfl) fun sb w10 hb hE hBb hs => ?_);replace E0:=E0.trans hE;replace hp:=hp.ext hE;replace hNX:=hNX.ext hE;replace N12:=N12.ext hE;clear hE hb hs;have hS:zM _ (.slice (some ⟨sb,0,none⟩) 1 1) [x]:=⟨_,1,rfl,Nat.le_refl _,.inr ⟨sb,0,_,rfl,hBb,by simp,fun i hi=>by
    obtain rfl:i=0:=by simp at hi;omega
    exact N12⟩,by simp⟩
   clear hBb N12;refine K1 (j2 E0 hp.ext hNX.ext hb99 (zCc hS) fun vi w2 E0 hp hNX hr => ?_);subst hr;clear hS;refine K1 (zAF rfl (ag (rm [0,3,11] K ?_)));refine K0 rfl ?_ ?_<;>intro hc
   · have hx0:¬ 0<x:=by simpa using hc
     clear hc;obtain rfl:R=([],7):=by unfold zKL at h;rw [if_neg h41,if_neg hx0] at h;exact (Option.some.inj h).symm
     refine rj fun K=>ag (ag (rm [0,3,4,5] K ?_));exact zE (zh (zY (zQ ⟨rfl,_,zn rfl rfl rfl,E0,_,rfl,IsOwn.nil⟩)))
   · have hx0:0<x:=by simpa using hc
     clear hc;unfold zKL at h;rw [if_neg h41,if_pos hx0] at h;obtain ⟨Rl,hden,rfl⟩:=map_some h;clear h;refine zz (zT (zN (rj fun K=>mv ?_)));have hsz:=E0.size;have hlt:=hNX.lt;refine K1 (j1 E0 hNX.ext hb34 (zBZ hp) fun v17 w2 E0 hNX N17 => ?_);generalize trim p=T at h0 h41 hden N17;obtain ⟨tp,tc,rfl,htc,hTR,htl,hto⟩:=N17;obtain ⟨tb,rfl,hgt⟩:=hto h0;have hne0:b1≠tb:=by omega
     replace hgt:w.heap.size≤tb:=Nat.le_trans hsz hgt;have hTB:=hTR.blk h0;clear hTR hto hsz hlt hp;refine ag (rm [0,3] K ?_);refine rj fun K=>K1 (j2 E0 hNX.ext hTB.ext hb100 (zDD) fun v18 w2 E0 hNX hTB N18 => ?_);have hlt:=hTB.lt;have hlt1:=hNX.lt;refine K1 (zK zAP fun fb w2 hb hE hBf hs => ?_);have hgf:w.heap.size≤fb:=by rw [hb];exact E0.size
     have hne1:tb≠fb:=by omega
     have hne2:b1≠fb:=by omega
     replace E0:=E0.trans hE;replace hTB:=hTB.ext hE;replace hNX:=hNX.ext hE;replace N18:=N18.ext hE;clear hE hb hs hlt hlt1;refine K1 (zI rfl N18 (Cell3.of hBf rfl) fun _ w9 hU hF => ?_);replace E0:=E0.upd hU hgf;replace hTB:=hTB.upd hU hBf hne1;replace hNX:=hNX.upd hU hBf hne2;clear hU hBf N18;refine rm [0,3,6] K ?_;refine zA (rJ fun K=>K1 (zJ zAA rfl (mv (rm [0,3,6,20,21] K ?_))));refine zG (zo (X:=Nat) (fun i ρ w'=>∃ L f r,Keep ρ [(0,.slice (some ⟨tb,0,none⟩) T.length tc),(3,.pointer (some ⟨b1,0,none⟩)),(6,.pointer (some ⟨fb,0,none⟩)),(20,.int .i64 (T.length:Nat)),(21,.int .i64 (i:Nat))]∧i≤T.length∧L.length=T.length∧Ext w w'∧PBlk w' tb L∧NumAt fb f w'∧NumAt b1 x w'∧denL x (L.drop i) f=some r∧L.take i++r=Rl) (fun i=>T.length-i) 0 ⟨T,1,Rl,(kp rfl),Nat.zero_le _,rfl,E0,hTB,hF,hNX,hden,rfl⟩ ?_);clear E0 hTB hF hNX hden;rintro i ρ1 w1 ⟨L,f,r,hk,hil,hLl,E0,hTB,hF,hNX,hden,hR⟩;refine wpe_k _ hk ?_;clear hk ρ1;refine rj fun K=>K8 rfl (rm [0,3,6,20,21,22] K ?_);refine zA ?_;refine K0 rfl ?_ ?_<;>intro hc
     · have hlt:i<T.length:=t_lt hc;clear hc;rw [zHl (by omega)] at hden;unfold denL at hden;obtain ⟨q,hq,hden⟩:=bind_some hden;obtain ⟨g,hg,hden⟩:=bind_some hden;obtain ⟨r2,hr2,hden⟩:=bind_some hden;obtain rfl:=Option.some.inj hden;clear hden;obtain ⟨hr1,hqe⟩:=zCC hq;obtain ⟨hr3,hge⟩:=zBn hg;clear hq hg;have hLR:=hTB.rd;have hL0:=hLl;refine sk (zA (zG (rJ fun K=>ag (rm [0,3,6,7,20,21] K ?_))))
       refine zAN 11 [([(0,none)],none),([(7,none)],none),([(0,none)],none),([(7,none)],none),([(26,some 1),(27,some 0)],none),([(28,some 0)],none),([(6,none)],none),([(29,some 1),(30,some 0)],none),([(6,none)],none),([(3,none)],none),([(32,some 1),(33,some 0)],none)] mixed (by kernel_rfl) (by kernel_rfl) (by kernel_rfl) (by kernel_rfl) (by kernel_rfl) fun K hK=>dvp (fun σ wx hE hk=>zF ⟨Ext.refl _,hk.1⟩) (dvp (fun σ wx hE hk=>zF ⟨Ext.refl _,hk.1⟩) (dvp (fun σ wx hE hk=>zF ⟨Ext.refl _,hk.1⟩) (dvp (fun σ wx hE hk=>zF ⟨Ext.refl _,hk.1⟩) (dcp (fun v _=>v = .pointer (some ⟨tb,3*i,none⟩)) (fun _ _ _ _ _ h=>h) (fun σ wx hE hk=>zBH hk.1 hk.2.1 hlt ⟨Ext.refl _,rfl⟩) (dcp (fun v w'=>IsNum w' v (L.getD i 0)) (fun _ _ _ _ hx h=>h.ext hx.toExt) (fun σ wx hE hk=>zAW (l:=L) (i:=i) (hLR.ext hE) (by omega) (hk.1.trans (by simp [zAk])) fun v h=>⟨Ext.refl _,h⟩) (dcp (fun v w'=>IsNum w' v f) (fun _ _ _ _ hx h=>h.ext hx.toExt) (fun σ wx hE hk=>zL hk.1 (hF.ext hE) fun v h=>⟨Ext.refl _,h⟩) ?_))))));refine dcp (fun v w'=>IsNum w' v q) (fun _ _ _ _ hx h=>h.ext hx.toExt) (fun σ wx hE hk=>zC hb69 (CallK.of_ret (zDR hk.1 hk.2.1 hr1) fun v w2 hX hr=>⟨hX,(by rw [hqe];exact hr)⟩) rfl) ?_
       refine dcp (fun v w'=>IsNum w' v f) (fun _ _ _ _ hx h=>h.ext hx.toExt) (fun σ wx hE hk=>zL hk.1 (hF.ext hE) fun v h=>⟨Ext.refl _,h⟩) (dcp (fun v w'=>IsNum w' v x) (fun _ _ _ _ hx h=>h.ext hx.toExt) (fun σ wx hE hk=>zL hk.1 (hNX.ext hE) fun v h=>⟨Ext.refl _,h⟩) ?_);refine dcp (fun v w'=>IsNum w' v g) (fun _ _ _ _ hx h=>h.ext hx.toExt) (fun σ wx hE hk=>zC hb101 (CallK.of_ret (zCz hk.1 hk.2.1 hr3) fun v w2 hX hr=>⟨hX,(by rw [hge];exact hr)⟩) rfl) ?_;refine zAR (hK _ fun wq hE => ?_);rintro _ rfl _ rfl _ rfl _ rfl v28 N28 v29 N29 v30 N30 v31 N31 v32 N32 v33 N33 v34 N34;refine zU ?_;replace E0:=E0.trans hE;replace hTB:=hTB.ext hE;replace hF:=hF.ext hE;replace hNX:=hNX.ext hE;clear hE;refine K1 (zBH (ix:=i) rfl rfl hlt (K1 (zBD (k:=i) rfl rfl N31 hTB (by omega) fun _ w9 hU hTB2 => ?_)));obtain ⟨tcs,hTc,-⟩:=hTB;replace E0:=E0.upd hU hgt;replace hF:=hF.upd hU hTc (Ne.symm hne1);replace hNX:=hNX.upd hU hTc hne0;replace N34:=N34.upd hU hTc (by decide);have hTB:=hTB2;clear hTB2 hTc hU tcs hLR;refine K1 (zI rfl N34 hF.cell fun _ w9 hU hF2 => ?_);obtain ⟨fcs,hFc,-⟩:=hF;replace E0:=E0.upd hU hgf;replace hTB:=hTB.upd hU hFc hne1;replace hNX:=hNX.upd hU hFc hne2;have hF:=hF2;clear hF2 hFc hU fcs N34 N31;have hL2:(L.set i q).length=T.length:=by rw [List.length_set];exact hLl
       have hden:denL x ((L.set i q).drop (i+1)) g=some r2:=by rw [List.drop_set_of_lt (by omega)];exact hr2
       replace hR:(L.set i q).take (i+1)++r2=Rl:=by
        rw [← hR,List.take_succ_eq_append_getElem (by rw [List.length_set];omega),List.getElem_set_self,List.take_set_of_le (Nat.le_refl _),List.append_assoc];rfl
       clear hr2 hLl hL0;refine zAi (zT (zN (K5 [0,3,6,20,21] ?_)));exact K6 fun K=>K8 rfl (mv (rl K (zV (⟨rfl,i+1,⟨_,_,r2,⟨rfl,rfl,rfl,rfl,rfl,rfl,rfl,rfl,rfl,congrArg (Value.int .i64) (zAD (by omega)),trivial⟩,by omega,hL2,E0,hTB,hF,hNX,hden,hR⟩,by omega⟩))))
     · have hge:=f_lt hc;obtain rfl:i=T.length:=by omega
       clear hc;rw [List.drop_eq_nil_of_le (by omega)] at hden;unfold denL at hden;obtain rfl:=Option.some.inj hden;clear hden;rw [List.append_nil,List.take_of_length_le (by omega)] at hR;subst hR;refine zi (zAE (zv (zP (zN (rJ fun K=>ag (ag (rm [0,3,4,5,6,20,21] K ?_)))))));refine zE (zQ ?_);exact ⟨rfl,_,zn rfl rfl rfl,E0,_,rfl,_,tc,(by rw [hLl];rfl),by rw [hLl];exact htc,hTB.rd,by rw [hLl];exact htl,fun _=>⟨tb,rfl,hgt⟩⟩
theorem Ext.self (_:Ext w w'):Ext w' w':=Ext.refl w'
theorem Ext.szE (_:Ext w w'):∃ s,s=w'.heap.size:=⟨_,rfl⟩
end Go.Proofs.YtjiendlfobjanaaGreatDoor
namespace Go.Proofs.YtjiendlfobjanaaGreatDoor.R
open Go Go.RowKit Go.Proofs Tryz
set_option maxRecDepth 10000
set_option maxHeartbeats 2000000
attribute [local irreducible] Runs WPE CallK Ret
variable {af:Array Edge} {g:Option (Nat×Bool)} {pos:String} {r:Option Nat} {ty:TypeId} {w:World} {σ:Operand→Value}
section laws
variable {K:Value→World→Prop} {d:Option Tmp}
end laws
end Go.Proofs.YtjiendlfobjanaaGreatDoor.R
namespace Go.Proofs.YtjiendlfobjanaaGreatDoor
open Go Go.RowKit Go.Proofs Tryz
set_option maxRecDepth 10000
set_option maxHeartbeats 2000000
attribute [local irreducible] Runs WPE CallK Ret
variable {P:Program} {a' b' u v v2 vb:Value} {af:Array Edge} {f:FuncId} {g:Option (Nat×Bool)} {n:Nat} {pos:String} {q:Rat} {r:Option Nat} {ty:TypeId} {w:World} {x y:Operand} {σ:Operand→Value}
theorem CallK.eq4 {a b c c' d d':Value} {K:Value→World→Prop} (h:a=a') (h2:b=b') (h3:c=c') (h4:d=d') (hk:CallK P f #[a',b',c',d'] w K):CallK P f #[a,b,c,d] w K:=by rw [h,h2,h3,h4];exact hk
def zLm (T a b:Poly):Nat→Poly→Poly→Option Poly
 | 0,out,_=>some out
 | k+1,out,pw=>(pmul out a).bind fun o=>(if k<T.length then (zFO pw (T.getD k 0)).bind fun s=>padd o s else some o).bind fun o'=>(pmul pw b).bind fun pw'=>zLm T a b k o' pw'
def zHx (p a b:Poly) (n:Nat):Option Poly:=zLm (trim p) a b (n+1) [] [1]
section laws
variable {K:Value→World→Prop} {d:Option Tmp}
theorem zKn {p:Rat} (hx:IsNum w (σ x) p) (hk:∀ v w',Ext w w'→zM w' v [p]→K v w'):Runs prog r ⟨d,.buildSlice 25 1 #[(0,x)],ty,pos,af,g⟩ σ w K:=by
 have hx0:=hx;obtain ⟨n,dd,he,hn,hd⟩:=hx;rw [he] at hx0;refine zR (cs:=[.bool (decide (p<0)),n,dd]) zAV info37' (by decide) (by decide) ?_ fun b w' hb hE hB hs'=>hk _ _ hE ⟨some ⟨b,0,none⟩,1,rfl,Nat.le_refl _,.inr ⟨b,0,_,rfl,hB,by simp,fun i hi => ?_⟩,by simp⟩
 · show Instr.fill _ _ [(0,σ x)]=_;rw [he]
   kernel_rfl
 · match i,hi with
   | 0,_=>exact hx0.ext hE
theorem zBo {p:Rat} (hx:IsNum w (σ x) p) (hy:IsNum w (σ y) q) (hk:∀ v w',Ext w w'→zM w' v [p,q]→K v w'):Runs prog r ⟨d,.buildSlice 25 2 #[(0,x),(1,y)],ty,pos,af,g⟩ σ w K:=by
 have hx0:=hx;have hy0:=hy;obtain ⟨n,dd,he,hn,hd⟩:=hx;obtain ⟨n2,dd2,he2,hn2,hd2⟩:=hy;rw [he] at hx0;rw [he2] at hy0;refine zR (cs:=[.bool (decide (p<0)),n,dd,.bool (decide (q<0)),n2,dd2]) zAV info37' (by decide) (by decide) ?_ fun b w' hb hE hB hs'=>hk _ _ hE ⟨some ⟨b,0,none⟩,2,rfl,Nat.le_refl _,.inr ⟨b,0,_,rfl,hB,by simp,fun i hi => ?_⟩,by simp⟩
 · show Instr.fill _ _ [(0,σ x),(1,σ y)]=_;rw [he,he2]
   kernel_rfl
 · match i,hi with
   | 0,_=>exact hx0.ext hE
   | 1,_=>exact hy0.ext hE
theorem runs_three1 {z:Operand} {p s:Rat} (hx:IsNum w (σ x) p) (hy:IsNum w (σ y) q) (hz:IsNum w (σ z) s) (hk:∀ v w',Ext w w'→zM w' v [p,q,s]→K v w'):Runs prog r ⟨d,.buildSlice 25 3 #[(0,x),(1,y),(2,z)],ty,pos,af,g⟩ σ w K:=by
 have hx0:=hx;have hy0:=hy;have hz0:=hz;obtain ⟨n,dd,he,hn,hd⟩:=hx;obtain ⟨n2,dd2,he2,hn2,hd2⟩:=hy;obtain ⟨n3,dd3,he3,hn3,hd3⟩:=hz;rw [he] at hx0;rw [he2] at hy0;rw [he3] at hz0;refine zR (cs:=[.bool (decide (p<0)),n,dd,.bool (decide (q<0)),n2,dd2,.bool (decide (s<0)),n3,dd3]) zAV info37' (by decide) (by decide) ?_ fun b w' hb hE hB hs'=>hk _ _ hE ⟨some ⟨b,0,none⟩,3,rfl,Nat.le_refl _,.inr ⟨b,0,_,rfl,hB,by simp,fun i hi => ?_⟩,by simp⟩
 · show Instr.fill _ _ [(0,σ x),(1,σ y),(2,σ z)]=_;rw [he,he2,he3]
   kernel_rfl
 · match i,hi with
   | 0,_=>exact hx0.ext hE
   | 1,_=>exact hy0.ext hE
   | 2,_=>exact hz0.ext hE
end laws
theorem zHH {va:Value} {p a b R:Poly} {m:Int} (hm:m=((n:Nat):Int)) (hp:zM w v p) (ha:zM w va a) (hb:zM w vb b) (hn:n<1000000) (h:zHx p a b n=some R):Ret prog 127 #[v,va,vb,.int .i64 m] w (fun r w'=>zM w' r R):=by
 subst hm;unfold zHx at h;have E0:Ext w w:=Ext.refl w;refine J0 40 func127 rfl (rj fun K=>ag (rm [0,1,2,3] K ?_));refine rJ fun K=>K1 (j0 E0 hb34 (zBZ hp) fun v13 w2 E0 hT => ?_);obtain ⟨tp,tc,rfl,htc,hT,htl,-⟩:=hT;refine ag (rm [0,1,2,3] K ?_);refine rj fun K=>ag (rm [0,1,2,3,9] K ?_);refine rj fun K=>K1 (j1 E0 hT.ext hb100 (zDD) fun v14 w2 E0 hT N14=>K1 (zKn N14 fun v15 w4 hE N15 => ?_));replace E0:=E0.trans hE;replace hT:=hT.ext hE;clear hE N14;refine ag (rm [0,1,2,3,9,10] K ?_);refine zA (rJ fun K=>ag (rm [0,1,2,9,10,11] K ?_));refine zG (zo (X:=Nat) (fun k ρ w'=>∃ vo vw o pw,Keep ρ [(0,.slice tp (trim p).length tc),(1,va),(2,vb),(9,vo),(10,vw),(11,.int .i64 (((k:Nat):Int)-1))]∧k≤n+1∧Ext w w'∧PRd w' tp (trim p)∧zM w' vo o∧zM w' vw pw∧zLm (trim p) a b k o pw=some R) (fun k=>k) (n+1) ⟨_,_,_,_,⟨rfl,rfl,rfl,rfl,rfl,rfl,rfl,rfl,rfl,rfl,rfl,congrArg (Value.int .i64) (by omega),trivial⟩,Nat.le_refl _,E0,hT,zM.nil,N15,h⟩ ?_);clear E0 hT N15 h;rintro k ρ1 w1 ⟨vo,vw,o,pw,hk,hkl,E0,hT,hO,hW,h⟩;refine wpe_k _ hk ?_;clear hk ρ1;refine zA (zA ?_);rcases k with _ | k
 · obtain rfl:=Option.some.inj h;refine rI fun K=>K8 rfl (rs [0,1,2,9,10,11,18] K ?_);refine wcf rfl (zi (zAE (zv (zP (zN (rJ fun K=>ag (rm [0,8,11] K ?_)))))));exact zE (en rfl E0 hO)
 · have hk0:decide ((((k+1:Nat):Int)-1)≥0)=true:=by simp only [decide_eq_true_eq];omega
   have hwk:IntKind.i64.wrap (((k+1:Nat):Int)-1-1)=((k:Nat):Int)-1:=by rw [zAG (by omega) (by omega)];omega
   have hkn:(((k+1:Nat):Int)-1)=(k:Int):=by omega
   unfold zLm at h;obtain ⟨o1,h1,h⟩:=bind_some h;obtain ⟨o2,h2,h⟩:=bind_some h;obtain ⟨pw2,h3,h⟩:=bind_some h;refine rI fun K=>K8 rfl (rs [0,1,2,9,10,11,18] K ?_);refine wct (congrArg Value.bool hk0) (sk (zA (zG (rJ fun K=>mv (K1 (j2 E0 hT.ext hW.ext hb71 (zDx hO (ha.ext E0) h1) fun v23 w2 E0 hT hW N23 => ?_))))));replace hO:=N23.poly
   try clear N23
   refine ag (rm [0,1,2,9,10,11] K ?_);refine zCJ (fun ρ w'=>∃ vo,Keep ρ [(0,.slice tp (trim p).length tc),(1,va),(2,vb),(9,vo),(10,vw),(11,.int .i64 (((k+1:Nat):Int)-1))]∧Ext w w'∧PRd w' tp (trim p)∧zM w' vo o2∧zM w' vw pw) ?_ ?_
   · refine rJ fun K=>mv (K1 (zJ zAA rfl (K8 rfl (rm [0,1,2,9,10,11,27] K ?_))));refine K0 rfl ?_ ?_<;>intro hc
     · have hlt:k<(trim p).length:=by have:=of_decide_eq_true hc;omega
       clear hc;rw [if_pos hlt] at h2;obtain ⟨s,hs1,hs2⟩:=bind_some h2;refine rI fun K=>mv (mv (mv (K1 (zAU (ix:=k) hT rfl (congrArg (Value.int .i64) hkn) hlt (K1 (zAW hT (i:=k) hlt rfl fun v33 N33=>K1 (j3 E0 hT.ext hW.ext hO.ext hb56 (zDz hW N33 hs1) fun v34 w2 E0 hT hW hO N34 => ?_)))))))
       try clear N33
       refine K1 (j2 E0 hT.ext hW.ext hb149 (zHV hO N34.poly hs2) fun v35 w2 E0 hT hW N35 => ?_)
       try clear N34
       exact ag (rl K (zV ⟨rfl,_,(kp rfl),E0,hT,N35.poly,hW⟩))
     · have hge:¬ k<(trim p).length:=fun e=>of_decide_eq_false hc (by omega);clear hc;rw [if_neg hge] at h2;obtain rfl:=Option.some.inj h2;exact zz (zV ⟨rfl,_,(kp rfl),E0,hT,hO,hW⟩)
   · clear E0 hT hO hW;rintro ρ2 w2 ⟨vo,hk,E0,hT,hO,hW⟩;refine wpe_k _ hk ?_;clear hk ρ2;refine rI fun K=>mv (K1 (j2 E0 hT.ext hO.ext hb71 (zDx hW (hb.ext E0) h3) fun v38 w2 E0 hT hO N38 => ?_));replace hW:=N38.poly
     try clear N38
     refine ag (rl K (zT (zN (K5 [0,1,2,9,10,11] ?_))));exact rI fun K=>K8 rfl (ag (rl K (zV (⟨rfl,k,⟨_,_,_,_,⟨rfl,rfl,rfl,rfl,rfl,rfl,rfl,rfl,rfl,rfl,rfl,congrArg (Value.int .i64) hwk,trivial⟩,by omega,E0,hT,hO,hW,h⟩,by omega⟩))))
def bandS (p:Poly) (b c:Rat):Option (Poly×Int):=if 41<(trim p).length then some ([],3) else if ¬ 0<b∨¬ 0<c then some ([],7) else if trim p=[] then some ([],8) else if 21<(trim p).length then some ([],3) else (zHx p [c,0,1] [0,b] ((trim p).length-1)).map fun l=>(l,0)
theorem zFp (b c:Rat):(!([b,c].any fun x=>decide (¬ 0<x)))=decide (0<b∧0<c):=by
 by_cases h1:0<b<;>by_cases h2:0<c<;>simp [h1,h2]
theorem Band_ok {v1:Value} {p:Poly} {b c:Rat} {R:Poly×Int} (hp:zM w u p) (hx:IsNum w v1 b) (hy:IsNum w v2 c) (h:bandS p b c=some R):Ret prog 51 #[u,v1,v2] w (fun r w'=>∃ t,r = .tuple #[t,.int .i64 R.2]∧zM w' t R.1):=by
 obtain ⟨xn,xd,hxv,hxn,hxd⟩:=id hx;subst hxv;obtain ⟨yn,yd,hyv,hyn,hyd⟩:=id hy;subst hyv;refine J0 36 func51 rfl (rj fun K => ?_);refine K1 (zk fun b1 w1 hb hE hB1 hs => ?_);have hgb1:w.heap.size≤b1:=by rw [hb];exact E0.size
 replace E0:=E0.trans hE;replace hx:=hx.ext hE;replace hy:=hy.ext hE;clear hE hs hb;refine K1 (zk fun b2 w2 hb hE hB2 hs => ?_);have hgb2:w.heap.size≤b2:=by rw [hb];exact E0.size
 have ne_b1_b2:b1≠b2:=by have:=hB1.lt;omega
 replace E0:=E0.trans hE;replace hx:=hx.ext hE;replace hy:=hy.ext hE;replace hB1:=hB1.ext hE;clear hE hs hb;refine ag (ag (rm [0,4,5] K ?_));refine zA ?_;have hX:NumAt b1 b _:=⟨_,hB1,rfl,hx⟩;have hY:NumAt b2 c _:=⟨_,hB2,rfl,hy⟩;refine rI fun K=>K1 (j6 E0 hX.ext hY.ext hx.ext hy.ext hB1.ext hB2.ext hb18 (zCK (hp.ext E0)) fun vi w2 E0 hX hY hx hy hB1 hB2 hr => ?_);subst hr;refine ag (rs [0,4,5,8] K ?_);refine zA (zG (rJ fun K=>K1 (j6 E0 hX.ext hY.ext hx.ext hy.ext hB1.ext hB2.ext hb79 (zFu (hp.ext E0)) fun vi w2 E0 hX hY hx hy hB1 hB2 hr => ?_)));subst hr;refine ag (rm [0,4,5,8,11] K ?_);refine K0 rfl ?_ ?_<;>intro hc
 · have h41:41<(trim p).length:=of_decide_eq_true hc;clear hc;rw [show bandS p b c=some ([],3) from by unfold bandS;rw [if_pos h41]] at h;obtain rfl:=Option.some.inj h;refine rj fun K=>ag (ag (rm [6,7] K ?_));exact zE (zh (zY (zQ ⟨rfl,_,zn rfl rfl rfl,E0,_,rfl,zM.nil⟩)))
 · have h41:¬ 41<(trim p).length:=of_decide_eq_false hc;clear hc;refine rj fun K=>K1 (zL rfl hX fun v15 N15=>K1 (zL rfl hY fun v16 N16=>K1 (zBo N15 N16 fun v17 w4 hE N17 => ?_)));replace E0:=E0.trans hE;replace hX:=hX.ext hE;replace hY:=hY.ext hE;replace hx:=hx.ext hE;replace hy:=hy.ext hE;replace hB1:=hB1.ext hE;replace hB2:=hB2.ext hE;clear hE N15 N16;refine K1 (j6 E0 hX.ext hY.ext hx.ext hy.ext hB1.ext hB2.ext hb99 (zCc N17) fun vi w2 E0 hX hY hx hy hB1 hB2 hr => ?_);subst hr;rw [zFp]
   try clear N17
   refine K1 (zAF rfl (ag (rm [0,4,5,8,14] K ?_)));refine K0 rfl ?_ ?_<;>intro hc
   · have hbc:¬ 0<b∨¬ 0<c:=by
      by_cases e1:0<b
      · by_cases e2:0<c
        · simp [e1,e2] at hc
        · exact .inr e2
      · exact .inl e1
     clear hc;rw [show bandS p b c=some ([],7) from by unfold bandS;rw [if_neg h41,if_pos hbc]] at h;obtain rfl:=Option.some.inj h;refine rj fun K=>ag (ag (rm [6,7] K ?_));exact zE (zh (zY (zQ ⟨rfl,_,zn rfl rfl rfl,E0,_,rfl,zM.nil⟩)))
   · have hbc:¬ (¬ 0<b∨¬ 0<c):=by
      by_cases e1:0<b
      · by_cases e2:0<c
        · exact fun e=>e.elim (fun e=>e e1) (fun e=>e e2)
        · simp [e1,e2] at hc
      · simp [e1] at hc
     clear hc;refine rJ fun K=>K8 rfl (ag (rm [0,4,5,8,20] K ?_));refine K0 rfl ?_ ?_<;>intro hc
     · have h0:trim p=[]:=List.eq_nil_of_length_eq_zero (by have:=of_decide_eq_true hc;omega);clear hc;rw [show bandS p b c=some ([],8) from by unfold bandS;rw [if_neg h41,if_neg hbc,if_pos h0]] at h;obtain rfl:=Option.some.inj h;refine rj fun K=>ag (ag (rm [6,7] K ?_));exact zE (zh (zY (zQ ⟨rfl,_,zn rfl rfl rfl,E0,_,rfl,zM.nil⟩)))
     · have hl1:1≤(trim p).length:=by have:=of_decide_eq_false hc;omega
       have h0:trim p≠[]:=fun e=>by rw [e] at hl1;simp at hl1
       clear hc;refine rJ fun K=>K8 rfl (ag (rm [0,4,5,8,23] K ?_));refine K0 rfl ?_ ?_<;>intro hc
       · have h21:21<(trim p).length:=by have:=of_decide_eq_true hc;omega
         clear hc;rw [show bandS p b c=some ([],3) from by unfold bandS;rw [if_neg h41,if_neg hbc,if_neg h0,if_pos h21]] at h;obtain rfl:=Option.some.inj h;refine rj fun K=>ag (ag (rm [6,7] K ?_));exact zE (zh (zY (zQ ⟨rfl,_,zn rfl rfl rfl,E0,_,rfl,zM.nil⟩)))
       · have h21:¬ 21<(trim p).length:=by have:=of_decide_eq_false hc;omega
         clear hc;rw [show bandS p b c=(zHx p [c,0,1] [0,b] ((trim p).length-1)).map fun l=>(l,0) from by unfold bandS;rw [if_neg h41,if_neg hbc,if_neg h0,if_neg h21]] at h;obtain ⟨l,hl,rfl⟩:=map_some h;have hnn:((trim p).length:Int)-1=(((trim p).length-1:Nat):Int):=by omega
         refine zz (zT (zN (zA (zAc [([(0,none)],none),([(5,none)],none),([],none),([],none),([(27,some 2),(28,some 1),(29,some 0)],none),([],none),([(4,none)],none),([(31,some 1),(32,some 0)],none),([(8,none)],none),([(26,some 8),(30,some 4),(33,some 1),(34,some 0)],none),([(35,some 0)],none),([],none)] mixed (by kernel_rfl) (by kernel_rfl) (by kernel_rfl) fun K hK=>dvp (fun σ wx hE hk=>zF ⟨Ext.refl _,hk.1⟩) (dcp (fun v w'=>IsNum w' v (c)) (fun _ _ _ _ hx h=>h.ext hx.toExt) (fun σ wx hE hk=>zL hk.1 (hY.ext hE) fun v h=>⟨Ext.refl _,h⟩) (dcp (fun v w'=>IsNum w' v (0)) (fun _ _ _ _ hx h=>h.ext hx.toExt) (fun σ wx hE hk=>zj (cs := #[.bool false,.slice none 0 0,.slice none 0 0]) (by kernel_rfl) ⟨Ext.refl _,IsNum.zero⟩) (dcp (fun v w'=>IsNum w' v (1)) (fun _ _ _ _ hx h=>h.ext hx.toExt) (fun σ wx hE hk=>zC hb100 (CallK.of_ret (zDD) fun v w2 hX hr=>⟨hX,hr⟩) rfl) (dcp (fun v w'=>zM w' v ([c,0,1])) (fun _ _ _ _ hx h=>h.ext hx.toExt) (fun σ wx hE hk=>runs_three1 hk.1 hk.2.1 hk.2.2.1 fun v w2 hX h=>⟨hX,h⟩) (dcp (fun v w'=>IsNum w' v (0)) (fun _ _ _ _ hx h=>h.ext hx.toExt) (fun σ wx hE hk=>zj (cs := #[.bool false,.slice none 0 0,.slice none 0 0]) (by kernel_rfl) ⟨Ext.refl _,IsNum.zero⟩) (dcp (fun v w'=>IsNum w' v (b)) (fun _ _ _ _ hx h=>h.ext hx.toExt) (fun σ wx hE hk=>zL hk.1 (hX.ext hE) fun v h=>⟨Ext.refl _,h⟩) (dcp (fun v w'=>zM w' v ([0,b])) (fun _ _ _ _ hx h=>h.ext hx.toExt) (fun σ wx hE hk=>zBo hk.1 hk.2.1 fun v w2 hX h=>⟨hX,h⟩) (dvp (fun σ wx hE hk=>zF ⟨Ext.refl _,hk.1⟩) (dcp (fun v w'=>zM w' v (l)) (fun _ _ _ _ hx h=>h.ext hx.toExt) (fun σ wx hE hk=>zC hb127 (CallK.eq4 rfl rfl rfl hk.2.2.2.1 (CallK.of_ret (zHH (n:=(trim p).length-1) hnn (zM.of_eq hk.1 (hp.ext (E0.trans hE))) hk.2.1 hk.2.2.1 (by omega) hl) fun v w2 hX hr=>⟨hX,hr⟩)) rfl) ?_)))))))))))))
         refine dcp (fun v w'=>zM w' v (l)) (fun _ _ _ _ hx h=>h.ext hx.toExt) (fun σ wx hE hk=>zp ⟨Ext.refl _,hk.1⟩) (dvp (fun σ wx hE hk=>zp ⟨Ext.refl _,rfl⟩) (zAR (hK _ fun wq hE => ?_)));rintro _ rfl v27 N27 v28 N28 v29 N29 v30 N30 v31 N31 v32 N32 v33 N33 _ rfl v35 N35 v6 N6 _ rfl;refine zU ?_;replace E0:=E0.trans hE;replace hx:=hx.ext hE;replace hy:=hy.ext hE;replace hB1:=hB1.ext hE;replace hB2:=hB2.ext hE;clear hE;refine zN (K5 [6,7] ?_);exact zE (zQ ⟨rfl,_,zn rfl rfl rfl,E0,_,rfl,N6⟩)
end Go.Proofs.YtjiendlfobjanaaGreatDoor
namespace Go.Proofs.YtjiendlfobjanaaGreatDoor
open Go Go.RowKit Go.Proofs Tryz
variable {E b c cap i ix len n o sz' sz2:Nat} {P:Program} {T ty:TypeId} {af:Array Edge} {cs row:List Value} {g:Option (Nat×Bool)} {p:Option Addr} {pos:String} {r:Option Nat} {rows:List (List Value)} {v:Value} {w w':World} {x y:Operand} {σ:Operand→Value}
def RowB (E n sz:Nat) (x:List Nat) (w:World) (v:Value) (rows:List (List Value)):Prop :=
 (∀ r,r∈rows→r.length=n)∧∃ p c,v = .slice p rows.length c∧rows.length≤c∧((rows=[]∧p=none∧c=0)∨∃ b cs,p=some ⟨b,0,none⟩∧sz≤b∧b ∉ x∧Blk w b E cs∧cs.length=n*c∧cs.take (n*rows.length)=rows.flatten)
def RowIn (E n b c:Nat) (w:World) (rows:List (List Value)):Prop:=(∀ r,r∈rows→r.length=n)∧∃ cs,Blk w b E cs∧cs.length=n*c∧cs.take (n*rows.length)=rows.flatten
def zEX (E sz:Nat) (row:List Value) (v:Value) (w:World):Prop:=∃ b,v = .slice (some ⟨b,0,none⟩) 1 1∧sz≤b∧Blk w b E row
theorem RowB.nil {sz:Nat} {x:List Nat}:RowB E n sz x w (.slice none 0 0) []:=⟨(fun r hr=>by cases hr),none,0,rfl,Nat.le_refl _,.inl ⟨rfl,rfl,rfl⟩⟩
theorem RowB.ext {sz:Nat} {x:List Nat} (h:RowB E n sz x w v rows) (hx:Ext w w'):RowB E n sz x w' v rows:=by
 obtain ⟨h0,p,c,h1,h2,h3⟩:=h;refine ⟨h0,p,c,h1,h2,?_⟩;rcases h3 with h | ⟨b,cs,e1,e2,e3,e4,e5,e6⟩
 · exact .inl h
 · exact .inr ⟨b,cs,e1,e2,e3,e4.ext hx,e5,e6⟩
theorem zEX.ext {sz:Nat} (h:zEX E sz row v w) (hx:Ext w w'):zEX E sz row v w':=by
 obtain ⟨b,h1,h2,h3⟩:=h;exact ⟨b,h1,h2,h3.ext hx⟩
theorem zEX.le {sz:Nat} (h:zEX E sz row v w) (hs:sz'≤sz):zEX E sz' row v w:=by
 obtain ⟨b,h1,h2,h3⟩:=h;exact ⟨b,h1,Nat.le_trans hs h2,h3⟩
theorem RowB.upd {sz:Nat} {x:List Nat} (h:RowB E n sz x w v rows) (hu:Upd c w w') (hc:Blk w c T cs) (hT:T≠E):RowB E n sz x w' v rows:=by
 obtain ⟨h0,p,k,h1,h2,h3⟩:=h;refine ⟨h0,p,k,h1,h2,?_⟩;rcases h3 with h | ⟨b,cs',e1,e2,e3,e4,e5,e6⟩
 · exact .inl h
 · exact .inr ⟨b,cs',e1,e2,e3,e4.upd hu fun e=>by subst e;exact hT (hc.inj e4).1,e5,e6⟩
theorem RowB.updX {sz:Nat} {x:List Nat} (h:RowB E n sz x w v rows) (hu:Upd c w w') (hc:c∈x):RowB E n sz x w' v rows:=by
 obtain ⟨h0,p,k,h1,h2,h3⟩:=h;refine ⟨h0,p,k,h1,h2,?_⟩;rcases h3 with h | ⟨b,cs',e1,e2,e3,e4,e5,e6⟩
 · exact .inl h
 · exact .inr ⟨b,cs',e1,e2,e3,e4.upd hu fun e=>by subst e;exact e3 hc,e5,e6⟩
theorem RowB.form {sz:Nat} {x:List Nat} (h:RowB E n sz x w v rows):∃ p c,v = .slice p rows.length c:=by
 obtain ⟨h0,p,c,h1,-⟩:=h;exact ⟨p,c,h1⟩
theorem RowB.sub {sz:Nat} {x y:List Nat} (h:RowB E n sz x w v rows) (hs:∀ b∈y,b∈x):RowB E n sz y w v rows:=by
 obtain ⟨h0,p,c,h1,h2,h3⟩:=h;refine ⟨h0,p,c,h1,h2,?_⟩;rcases h3 with h | ⟨b,cs,e1,e2,e3,e4,e5,e6⟩
 · exact .inl h
 · exact .inr ⟨b,cs,e1,e2,fun hm=>e3 (hs b hm),e4,e5,e6⟩
theorem RowB.new {sz y:Nat} {x:List Nat} (h:RowB E n sz x w v rows) (hy:w.heap.size≤y):RowB E n sz (y :: x) w v rows:=by
 obtain ⟨h0,p,c,h1,h2,h3⟩:=h;refine ⟨h0,p,c,h1,h2,?_⟩;rcases h3 with h | ⟨b,cs,e1,e2,e3,e4,e5,e6⟩
 · exact .inl h
 · exact .inr ⟨b,cs,e1,e2,fun hm=>by
    rcases List.mem_cons.1 hm with h | h
    · have:=e4.lt;omega
    · exact e3 h,e4,e5,e6⟩
theorem RowB.sz {sz:Nat} {x:List Nat} (h:RowB E n sz x w v rows) (hs:sz'≤sz):RowB E n sz' x w v rows:=by
 obtain ⟨h0,p,c,h1,h2,h3⟩:=h;refine ⟨h0,p,c,h1,h2,?_⟩;rcases h3 with h | ⟨b,cs,e1,e2,e3,e4,e5,e6⟩
 · exact .inl h
 · exact .inr ⟨b,cs,e1,by omega,e3,e4,e5,e6⟩
theorem RowB.cases {sz:Nat} {x:List Nat} (h:RowB E n sz x w v rows) :
 (∃ b c,v = .slice (some ⟨b,0,none⟩) rows.length c∧rows.length+1≤c∧sz≤b∧b ∉ x∧RowIn E n b c w rows)∨(∃ p c,v = .slice p rows.length c∧c<rows.length+1):=by
 obtain ⟨h0,p,c,h1,h2,h3⟩:=h;by_cases hc:rows.length+1≤c
 · rcases h3 with ⟨e1,e2,e3⟩ | ⟨b,cs,e1,e2,e3,e4,e5,e6⟩
   · omega
   · exact .inl ⟨b,c,by rw [h1,e1],hc,e2,e3,h0,cs,e4,e5,e6⟩
 · exact .inr ⟨p,c,h1,by omega⟩
theorem RowIn.acc {sz:Nat} {x:List Nat} (h:RowIn E n b c w rows) (hs:sz≤b) (hx:b ∉ x) (hc:rows.length≤c):RowB E n sz x w (.slice (some ⟨b,0,none⟩) rows.length c) rows:=by
 obtain ⟨h0,cs,h1,h2,h3⟩:=h;exact ⟨h0,_,c,rfl,hc,.inr ⟨b,cs,rfl,hs,hx,h1,h2,h3⟩⟩
theorem RowIn.blk (h:RowIn E n b c w rows):∃ cs,Blk w b E cs:=by obtain ⟨h0,cs,h1,_⟩:=h;exact ⟨cs,h1⟩
theorem zIQ:∀ (vs cs:List Value) (o:Nat),o+vs.length≤cs.length→(zAy cs o vs).take (o+vs.length)=cs.take o++vs
 | [],cs,o,_=>by simp [zAy]
 | v :: vs,cs,o,h=>by
  simp only [List.length_cons] at h ⊢;show (zAy (cs.set o v) (o+1) vs).take _=_;rw [show o+(vs.length+1)=o+1+vs.length by omega,zIQ vs (cs.set o v) (o+1) (by rw [List.length_set];omega)];rw [List.take_succ_eq_append_getElem (by rw [List.length_set];omega),List.take_set_of_le (Nat.le_refl o),List.getElem_set_self,List.append_assoc];rfl
theorem zEF {n:Nat}:∀ {rows:List (List Value)},(∀ r,r∈rows→r.length=n)→rows.flatten.length=n*rows.length
 | [],_=>by simp
 | r :: rows,h=>by
  rw [List.flatten_cons,List.length_append,zEF fun x hx=>h x (List.mem_cons_of_mem _ hx),h r List.mem_cons_self,List.length_cons,Nat.mul_succ,Nat.add_comm]
theorem zMD (h:∀ r,r∈rows→r.length=n) (hr:row.length=n):∀ r,r∈rows++[row]→r.length=n:=fun r hm=>by
 rcases List.mem_append.1 hm with h1 | h1
 · exact h r h1
 · rw [List.mem_singleton.1 h1];exact hr
section laws
variable {K:Value→World→Prop} {d:Option Tmp}
structure RowT (P:Program) (T E n:Nat):Prop where
 sl:P.underlying T=some (.slice E)
 el:∃ z bytes,(P.info? E).map (fun i=>(i.zero,i.size,i.bytes))=some (some z,n,bytes)∧z.cells.size=n∧0<bytes∧bytes≤128
theorem runs_rowE_in {T sz:Nat} (hT:RowT P T E n) (hx:σ x = .slice (some ⟨b,0,none⟩) rows.length c) (hc:rows.length+1≤c) (hB:RowIn E n b c w rows) (hy:zEX E sz row (σ y) w) (hr:row.length=n) (hok:row.all zBl=true) :
 Runs P r ⟨d,.call { callee := .builtin .append,args := #[x,y],argTypes := #[T,T] },ty,pos,af,g⟩ σ w (fun v w'=>ExtS [b] w w'∧RowIn E n b c w' (rows++[row])∧v = .slice (some ⟨b,0,none⟩) (rows++[row]).length c):=by
 obtain ⟨h0,cs,h1,h2,h3⟩:=hB;obtain ⟨b2,e1,_,e2⟩:=hy;obtain ⟨z,bytes,hi,hz,hb0,hb1⟩:=hT.el;have hle:(rows.length+1)*n≤cs.length:=by rw [h2,Nat.mul_comm n];exact Nat.mul_le_mul_right n hc
 refine zBM (n:=n) hT.sl hT.sl hi hx e1 h1 (Cells.blk e2) (by rw [hr,Nat.one_mul]) hc (by omega) hok fun w' hU hN=>⟨hU.toS (by simp),⟨zMD h0 hr,_,hN,by rw [zAh];exact h2,?_⟩,by simp⟩;rw [Nat.zero_add,List.length_append,List.length_singleton,Nat.mul_add,Nat.mul_one,Nat.mul_comm rows.length n];have hs:=zIQ row cs (n*rows.length) (by rw [hr];rw [Nat.add_mul,Nat.one_mul,Nat.mul_comm] at hle;exact hle);rw [hr] at hs;rw [hs,h3,List.flatten_append];simp
theorem runs_rowE_grow {T sz0 sz:Nat} {x0 xx:List Nat} (hT:RowT P T E n) (hx:σ x = .slice p rows.length c) (hA:RowB E n sz0 x0 w (.slice p rows.length c) rows) (hc:c<rows.length+1) (hy:zEX E sz2 row (σ y) w) (hr:row.length=n) (hl:rows.length<100000) (hs:sz≤w.heap.size) (hxx:∀ y∈xx,y<w.heap.size) :
 Runs P r ⟨d,.call { callee := .builtin .append,args := #[x,y],argTypes := #[T,T] },ty,pos,af,g⟩ σ w (fun v w'=>Ext w w'∧RowB E n sz xx w' v (rows++[row])):=by
 obtain ⟨b2,e1,_,e2⟩:=hy;obtain ⟨h0,p',c',h1,h2,h3⟩:=hA;cases h1;obtain ⟨z,bytes,hi,hz,hb0,hb1⟩:=hT.el;have hnew:=zAa (rows.length+1) c;have hold:Cells w p E rows.flatten:=by
  rcases h3 with ⟨e1,_,_⟩ | ⟨b,cs,e1,e2,e3,e4,e5,e6⟩
  · subst e1;exact .inl rfl
  · exact .inr ⟨b,0,cs,e1,e4,by rw [zEF h0,List.drop_zero];exact e6⟩
 have hbig:Builtin.nextslicecap (rows.length+1) c*bytes≤281474976710656:=by
  have:Builtin.nextslicecap (rows.length+1) c*bytes≤500000*128:=Nat.mul_le_mul (by omega) hb1;omega
 refine zAJ (n:=n) hT.sl hT.sl hi hz hb0 hx e1 hold (by rw [zEF h0,Nat.mul_comm]) (Cells.blk e2) (by rw [hr,Nat.one_mul]) (by omega) hbig fun w' rest c' g1 hE hB g2 _=>⟨hE,zMD h0 hr,_,c',by simp,by simpa using g1,.inr ⟨w.heap.size,_,rfl,hs,fun hm=>by have:=hxx _ hm;omega,hB,?_,?_⟩⟩
 · have hrl:rest.length=(c'-(rows.length+1))*n:=by rw [g2];simp [Builtin.zeroCells,hz]
   rw [List.length_append,List.length_append,zEF h0,hr,hrl];obtain ⟨k,rfl⟩:∃ k,c'=rows.length+1+k:=⟨c'-(rows.length+1),by omega⟩;rw [show rows.length+1+k-(rows.length+1)=k by omega,Nat.mul_add,Nat.mul_add,Nat.mul_one,Nat.mul_comm k]
 · have hf:(rows.flatten++row).length=n*(rows++[row]).length:=by rw [List.length_append,zEF h0,hr,List.length_append,List.length_singleton,Nat.mul_add,Nat.mul_one]
   rw [List.take_append_of_le_length (by omega),List.take_of_length_le (by omega),List.flatten_append];simp
structure NearR (E sz:Nat) (x:List Nat) (w w':World):Prop where
 nc:NC w w'
 ext:∀ W:World,W.heap.size≤sz→Ext W w→Ext W w'
 blk:∀ b T cs,(b<sz∨b∈x∨T≠E)→Blk w b T cs→Blk w' b T cs
 size:w.heap.size≤w'.heap.size
theorem NearR.of_ext {sz:Nat} {x:List Nat} (h:Ext w w'):NearR E sz x w w':=⟨NC.ext h,fun _ _ hx=>hx.trans h,fun _ _ _ _ hb=>hb.ext h,h.size⟩
theorem NearR.of_extS {sz:Nat} {x:List Nat} (h:ExtS [b] w w') (hs:sz≤b) (hx:b ∉ x) (hB:RowIn E n b c w rows):NearR E sz x w w':=by
 obtain ⟨cs0,hB0⟩:=hB.blk;refine ⟨NC.extS h hB0,fun W hW hx=>hx.updSS h (fun c hc=>by rw [List.mem_singleton.1 hc];omega),fun b' T cs h1 h2 => ?_,h.size⟩;have hne:b'≠b:=fun e=>by
  subst e;rcases h1 with h1 | h1 | h1
  · omega
  · exact hx h1
  · exact h1 (h2.inj hB0).1
 show w'.heap[b']? = _;rw [h.block b' h2.lt (by rw [List.mem_singleton];exact hne)];exact h2
theorem zHC {T sz:Nat} {xx:List Nat} (hT:RowT P T E n) (hx:σ x=v) (hA:RowB E n sz xx w v rows) (hy:zEX E sz2 row (σ y) w) (hr:row.length=n) (hok:row.all zBl=true) (hl:rows.length<100000) (hs:sz≤w.heap.size) (hxx:∀ y∈xx,y<w.heap.size)
 (hk:∀ v' w',NearR E sz xx w w'→RowB E n sz xx w' v' (rows++[row])→K v' w'):Runs P r ⟨d,.call { callee := .builtin .append,args := #[x,y],argTypes := #[T,T] },ty,pos,af,g⟩ σ w K:=by
 rcases hA.cases with ⟨b,c,e,hc,hb,hbx,hB⟩ | ⟨p,c,e,hc⟩
 · rw [e] at hx;refine Runs.mono (runs_rowE_in hT hx hc hB hy hr hok) fun v' w' ⟨h1,h2,h3⟩ => ?_;refine hk _ _ (NearR.of_extS h1 hb hbx hB) ?_;rw [h3];exact h2.acc hb hbx (by simpa using hc)
 · rw [e] at hx hA;refine Runs.mono (runs_rowE_grow (sz:=sz) (xx:=xx) hT hx hA hc hy hr hl hs hxx) fun v' w' ⟨h1,h2⟩ => ?_;exact hk _ _ (NearR.of_ext h1) h2
end laws
theorem zLE {n:Nat}:∀ {rows:List (List Value)} {i:Nat},(∀ r,r∈rows→r.length=n)→i<rows.length→(rows.flatten.drop (n*i)).take n=rows.getD i []
 | [],i,_,hi=>by simp at hi
 | r :: rows,0,h,_=>by
  rw [Nat.mul_zero,List.drop_zero,List.flatten_cons,List.take_append_of_le_length (by rw [h r List.mem_cons_self];exact Nat.le_refl _),List.take_of_length_le (by rw [h r List.mem_cons_self];exact Nat.le_refl _)];rfl
 | r :: rows,i+1,h,hi=>by
  have hr:=h r List.mem_cons_self;rw [List.flatten_cons,Nat.mul_succ,List.drop_append,List.drop_of_length_le (by rw [hr];exact Nat.le_add_left _ _),List.nil_append,hr,Nat.add_sub_cancel];exact zLE (fun x hx=>h x (List.mem_cons_of_mem _ hx)) (by simpa using hi)
def RowR (E n:Nat) (w:World) (p:Option Addr) (rows:List (List Value)):Prop:=rows=[]∨∃ b cs,p=some ⟨b,0,none⟩∧Blk w b E cs∧n*rows.length≤cs.length∧∀ i,i<rows.length→(cs.drop (n*i)).take n=rows.getD i []
theorem RowR.ext (h:RowR E n w p rows) (hx:Ext w w'):RowR E n w' p rows:=by
 rcases h with h | ⟨b,cs,h1,h2,h3,h4⟩
 · exact .inl h
 · exact .inr ⟨b,cs,h1,h2.ext hx,h3,h4⟩
theorem rows_at (h0:∀ r,r∈rows→r.length=n) (h:cs.take (n*rows.length)=rows.flatten):n*rows.length≤cs.length∧∀ i,i<rows.length→(cs.drop (n*i)).take n=rows.getD i []:=by
 have hl:=congrArg List.length h;rw [zEF h0,List.length_take] at hl;refine ⟨by omega,fun i hi => ?_⟩;rw [← zLE h0 hi,← h,List.drop_take,List.take_take,Nat.min_eq_left];have h1:n*(i+1)≤n*rows.length:=Nat.mul_le_mul_left _ hi;rw [Nat.mul_succ] at h1;omega
theorem RowB.rd {sz:Nat} {x:List Nat} (h:RowB E n sz x w v rows):∃ p c,v = .slice p rows.length c∧RowR E n w p rows:=by
 obtain ⟨h0,p,c,h1,h2,h3⟩:=h;refine ⟨p,c,h1,?_⟩;rcases h3 with ⟨e,_⟩ | ⟨b,cs,e1,e2,e3,e4,e5,e6⟩
 · exact .inl e
 · obtain ⟨g1,g2⟩:=rows_at h0 e6;exact .inr ⟨b,cs,e1,e4,g1,g2⟩
theorem RowR.at (h:RowR E n w p rows) (hi:i<rows.length):∃ b cs,p=some ⟨b,0,none⟩∧Blk w b E cs∧n*i+n≤cs.length∧(cs.drop (n*i)).take n=rows.getD i []:=by
 rcases h with h | ⟨b,cs,h1,h2,h3,h4⟩
 · rw [h] at hi;simp at hi
 · refine ⟨b,cs,h1,h2,?_,h4 i hi⟩;have h5:n*(i+1)≤n*rows.length:=Nat.mul_le_mul_left _ hi;rw [Nat.mul_succ] at h5;omega
structure El where
 k:Int
 a:Int
 b:Int
 c:Int
 d:Int
 v:List UInt8
def elc (e:El):List Value:=[.int .i64 e.k,.int .i64 e.a,.int .i64 e.b,.int .i64 e.c,.int .i64 e.d,.int .i64 0,.int .i64 0,S e.v]
theorem zNb:prog.underlying 79=some (.slice 119):=by kernel_rfl
theorem info119:(prog.info? 119).map (fun i=>(i.zero,i.size,i.bytes))=some (some (.agg #[.int .i64 0,.int .i64 0,.int .i64 0,.int .i64 0,.int .i64 0,.int .i64 0,.int .i64 0,.string ⟨#[]⟩]),8,72):=by kernel_rfl
theorem info119':(prog.info? 119).map (fun i=>(i.zero,i.size))=some (some (.agg #[.int .i64 0,.int .i64 0,.int .i64 0,.int .i64 0,.int .i64 0,.int .i64 0,.int .i64 0,.string ⟨#[]⟩]),8):=by kernel_rfl
theorem zero119:(prog.info? 119).bind (·.zero)=some (.agg #[.int .i64 0,.int .i64 0,.int .i64 0,.int .i64 0,.int .i64 0,.int .i64 0,.int .i64 0,.string ⟨#[]⟩]):=by kernel_rfl
theorem size119:(prog.info? 119).map (·.size)=some 8:=by kernel_rfl
theorem zEr:zAZ prog 79 119 8:=by unfold zAZ;exact ⟨by kernel_rfl,by kernel_rfl⟩
theorem zMk:Aggr prog 119 8:=by unfold Aggr;exact ⟨by kernel_rfl,by kernel_rfl⟩
theorem row79:RowT prog 79 119 8:=⟨zNb,_,_,info119,rfl,by decide,by decide⟩
theorem zGh:Plain prog 79:=by unfold Plain;exact ⟨by kernel_rfl,by kernel_rfl⟩
theorem zFW:zt prog 169 0 0:=by unfold zt;kernel_rfl
theorem zLi:zt prog 82 0 0:=by unfold zt;kernel_rfl
theorem zHs:zt prog 82 1 1:=by unfold zt;kernel_rfl
theorem fo119_1:zt prog 119 1 1:=by unfold zt;kernel_rfl
theorem fo119_2:zt prog 119 2 2:=by unfold zt;kernel_rfl
theorem fo119_3:zt prog 119 3 3:=by unfold zt;kernel_rfl
theorem fo119_4:zt prog 119 4 4:=by unfold zt;kernel_rfl
theorem zLF:zt prog 119 7 7:=by unfold zt;kernel_rfl
theorem size79:(prog.info? 79).map (·.size)=some 1:=by kernel_rfl
theorem size3:(prog.info? 3).map (·.size)=some 1:=by kernel_rfl
theorem zGO:(prog.info? 82).map (·.size)=some 3:=by kernel_rfl
theorem zNd:(prog.info? 82).bind (·.zero)=some (.agg #[.int .i64 0,.slice none 0 0,.slice none 0 0]):=by kernel_rfl
theorem zFq:Aggr prog 82 3:=by unfold Aggr;exact ⟨by kernel_rfl,by kernel_rfl⟩
def mx (a b:Int):Int:=if b>a then b else a
def el0:El:=⟨0,0,0,0,0,[]⟩
def topE (n:Int) (e:El):Int:=mx (mx (mx (mx n e.a) e.b) e.c) e.d
def tops (n:Int) (es:List El):Int:=es.foldl topE n
theorem tops_take {n:Int} {es:List El} (h:i<es.length):tops n (es.take (i+1))=topE (tops n (es.take i)) (es.getD i el0):=by
 unfold tops;rw [List.take_succ_eq_append_getElem h,List.foldl_append,List.getD_eq_getElem?_getD,List.getElem?_eq_getElem h];rfl
theorem elc_len (e:El):(elc e).length=8:=rfl
theorem zMs (es:List El):∀ r,r∈es.map elc→r.length=8:=fun r hr=>by
 obtain ⟨e,-,rfl⟩:=List.mem_map.1 hr;rfl
theorem zLC {es:List El} (h:i<es.length) (d:El):(es.map elc).getD i []=elc (es.getD i d):=by
 rw [List.getD_eq_getElem?_getD,List.getElem?_map,List.getD_eq_getElem?_getD,List.getElem?_eq_getElem h];rfl
section laws
variable {K:Value→World→Prop} {d:Option Tmp}
theorem zBO {T:Nat} {i:Operand} {k:IntKind} (hT:zAZ P T E n) (hx:σ x = .slice (some ⟨b,0,none⟩) len cap) (hi:σ i = .int k (ix:Int)) (h1:ix<len) (hk:K (.pointer (some ⟨b,n*ix,none⟩)) w):Runs P r ⟨d,.indexAddr T x i,ty,pos,af,g⟩ σ w K:=by
 refine zO hT hx hi (by omega) (by omega) ?_;rw [show 0+((ix:Nat):Int).toNat*n=n*ix from by rw [Nat.zero_add,Int.toNat_natCast,Nat.mul_comm]];exact hk
theorem zJA {e:El} (hx:σ x = .pointer (some ⟨b,o,none⟩)) (ho:o=8*i) (hB:Blk w b 119 cs) (hl:8*i+8≤cs.length) (he:(cs.drop (8*i)).take 8=elc e) (hk:K (.agg (elc e).toArray) w):Runs prog r ⟨d,.load 119 x,ty,pos,af,g⟩ σ w K:=by
 subst ho;exact zW zMk hx hB hl (by rw [he];exact hk)
theorem zAI {a:Addr} (hx:σ x = .pointer (some a)) (hk:K (.pointer (some a)) w):Runs P r ⟨d,.nilCheck x,ty,pos,af,g⟩ σ w K:=by
 refine zl (fun _ e=>by cases e) ?_ hk;simp [execOp,hx]
theorem runs_max5 {x1 x2 x3 x4 x5:Operand} {a1 a2 a3 a4 a5:Int} (h1:σ x1 = .int .i64 a1) (h2:σ x2 = .int .i64 a2) (h3:σ x3 = .int .i64 a3) (h4:σ x4 = .int .i64 a4) (h5:σ x5 = .int .i64 a5) (hk:K (.int .i64 (mx (mx (mx (mx a1 a2) a3) a4) a5)) w):Runs P r ⟨d,.call { callee := .builtin .max,args := #[x1,x2,x3,x4,x5],argTypes := #[T,T,T,T,T] },ty,pos,af,g⟩ σ w K:=by
 refine zl (fun _ e=>by cases e) ?_ hk;simp [execOp,resolve,h1,h2,h3,h4,h5,invoke,builtin,Builtin.max_,Builtin.max2,mx]
theorem zDq {e:El} (hy:σ y = .agg (elc e).toArray) (hk:∀ v w',Ext w w'→zEX 119 w.heap.size (elc e) v w'→K v w'):Runs prog r ⟨d,.buildSlice 79 1 #[(0,y)],ty,pos,af,g⟩ σ w K:=by
 refine zR (cs:=elc e) zNb info119' (by decide) (by decide) ?_ fun b w' hb hE hB hs=>hk _ _ hE ⟨b,rfl,Nat.le_of_eq hb.symm,hB⟩;show Instr.fill _ _ [(0,σ y)]=_;rw [hy]
 kernel_rfl
end laws
end Go.Proofs.YtjiendlfobjanaaGreatDoor
namespace Go.Proofs.YtjiendlfobjanaaGreatDoor
set_option maxRecDepth 10000
open Go Go.RowKit Go.Proofs Tryz
def hm (T:Poly) (A B:Rat):Nat→Rat→Rat→Rat
 | 0,o,_=>o
 | k+1,o,w=>hm T A B k (o*A+co T k*w) (w*B)
def zCq (p:Poly) (n:Nat) (t:Rat):Int:=if 41<(trim p).length then 3 else if n+1<(trim p).length∨40<n∨¬ 0<t then 7 else 0
def zLX (p:Poly) (n:Nat) (t:Rat):Option (Poly×Int):=if zCq p n t≠0 then some ([],zCq p n t) else (rdiv 2 t).bind fun c=>(zHx p [-c,c] [1,1] n).map fun l=>(l,0)
def backS (p:Poly) (n:Nat) (t:Rat):Option (Poly×Int):=if zCq p n t≠0 then some ([],zCq p n t) else (rdiv t 2).bind fun h=>(zHx p [1,h] [1,-h] n).map fun l=>(l,0)
def zMJ (q:Poly):Option (Int×Int×Int×Int):=if asked q≠0 then some (0,0,0,asked q) else
 (zHx q [1,1] [1,-1] ((trim q).length-1)).bind fun p=>(routh p).map fun r =>
  let left:Int:=((trim p).length:Int)-1-r.1-r.2.1
  (left,((trim q).length:Int)-1-left-r.1,r.1,0)
end Go.Proofs.YtjiendlfobjanaaGreatDoor
namespace Go.Proofs.YtjiendlfobjanaaGreatDoor
open Go Go.RowKit Go.Proofs Tryz
set_option maxRecDepth 10000
set_option maxHeartbeats 2000000
attribute [local irreducible] Runs WPE CallK Ret
variable {N n t:Nat} {P:Program} {fn:Func} {u v:Value} {w:World} {ρ:Env}
theorem zMT {p:Poly} {t:Rat} (hn:n<1000000) (hp:zM w v p) (hx:IsNum w u t):Ret prog 131 #[v,.int .i64 (n:Int),u] w (fun r _=>r = .int .i64 (zCq p n t)):=by
 obtain ⟨xn,xd,rfl,hxn,hxd⟩:=hx;have hx:IsNum w (.agg #[.bool (decide (t<0)),xn,xd]) t:=⟨_,_,rfl,hxn,hxd⟩;clear hxn hxd;refine J0 26 func131 rfl (rj fun K => ?_);refine K1 (zk fun b1 w1 hb hE hB1 hs => ?_);have hgb1:w.heap.size≤b1:=by rw [hb];exact E0.size
 replace E0:=E0.trans hE;replace hp:=hp.ext hE;replace hx:=hx.ext hE;clear hE hs hb;refine ag (rm [0,1,5] K ?_);refine zA (zG (zA ?_));have hX:NumAt b1 t _:=⟨_,hB1,rfl,hx⟩;clear hB1 hx;refine rI fun K=>K1 (j2 E0 hp.ext hX.ext hb79 (zFu hp) fun vi w2 E0 hp hX hr => ?_);subst hr;refine ag (rs [0,1,5,7] K ?_);refine K0 rfl ?_ ?_<;>intro hc
 · have h41:41<(trim p).length:=of_decide_eq_true hc;clear hc;refine rj fun K=>ag (rm [6] K ?_);refine zE (zh (zY (zQ ?_)));exact ⟨rfl,_,zm rfl rfl,E0,by rw [show zCq p n t=3 from if_pos h41];rfl⟩
 · have h41:¬ 41<(trim p).length:=of_decide_eq_false hc;clear hc;refine zA ?_;have hmx:(if ((trim p).length:Int)-1<0 then 0 else ((trim p).length:Int)-1)=max (((trim p).length:Int)-1) 0:=by split<;>omega
   have hcs:n+1<(trim p).length∨(¬ n+1<(trim p).length∧40<n)∨(¬ n+1<(trim p).length∧¬ 40<n):=by omega
   rcases hcs with hA | ⟨hA,hC⟩ | ⟨hA,hC⟩
   · skip
     refine rI fun K=>mv (K1 (j2 E0 hp.ext hX.ext hb18 (zCK hp) fun vi w2 E0 hp hX hr => ?_));subst hr;refine K1 (zCj rfl rfl ?_);refine K9 (true) rfl (decide_eq_true (by rw [hmx];omega)) ?_;refine mv (K3 (K3 (pc0 rfl (mv (K3 (K3 (K3 (K3 (pc0 rfl (ag (rs [10] K ?_)))))))))));refine wct rfl (rj fun K=>ag (rm [6] K ?_));refine zE (zh (zY (zQ ?_)));exact ⟨rfl,_,zm rfl rfl,E0,by rw [show zCq p n t=7 from by unfold zCq;rw [if_neg h41,if_pos (.inl hA)]];rfl⟩
   · skip
     refine rI fun K=>mv (K1 (j2 E0 hp.ext hX.ext hb18 (zCK hp) fun vi w2 E0 hp hX hr => ?_));subst hr;refine K1 (zCj rfl rfl ?_);refine K9 (false) rfl (decide_eq_false (by rw [hmx];omega)) ?_;refine mv (K7 (K2 (zH (v := .bool (true)) rfl rfl (congrArg (fun z=>some (Value.bool z)) (decide_eq_true (by omega))) (pc0 rfl (mv (K3 (K3 (K3 (K3 (pc0 rfl (ag (rs [10] K ?_))))))))))));refine wct rfl (rj fun K=>ag (rm [6] K ?_));refine zE (zh (zY (zQ ?_)));exact ⟨rfl,_,zm rfl rfl,E0,by rw [show zCq p n t=7 from by unfold zCq;rw [if_neg h41,if_pos (.inr (.inl hC))]];rfl⟩
   · skip
     refine rI fun K=>mv (K1 (j2 E0 hp.ext hX.ext hb18 (zCK hp) fun vi w2 E0 hp hX hr => ?_));subst hr;refine K1 (zCj rfl rfl ?_);refine K9 (false) rfl (decide_eq_false (by rw [hmx];omega)) ?_;refine mv (K7 (K2 (zH (v := .bool (false)) rfl rfl (congrArg (fun z=>some (Value.bool z)) (decide_eq_false (by omega))) (pc0 rfl (mv (K2 (zL rfl hX fun v21 N21=>K2 (zKn N21 fun v22 w4 hE N22 => ?_))))))));replace E0:=E0.trans hE;clear hE N21;refine K2 (j0 E0 hb99 (zCc N22) fun vi w2 E0 hr => ?_);subst hr
     try clear N22
     refine K2 (zAF rfl (pc0 rfl (ag (rs [10] K ?_))));refine K0 rfl ?_ ?_<;>intro hc
     · have ht:¬ 0<t:=by simpa using hc
       clear hc;refine rj fun K=>ag (rm [6] K ?_);refine zE (zh (zY (zQ ?_)));exact ⟨rfl,_,zm rfl rfl,E0,by rw [show zCq p n t=7 from by unfold zCq;rw [if_neg h41,if_pos (.inr (.inr ht))]];rfl⟩
     · have ht:0<t:=by simpa using hc
       clear hc;refine zz (zT (zN (rj fun K=>ag (rm [6] K ?_))));refine zE (zQ ?_);exact ⟨rfl,_,zm rfl rfl,E0,by rw [show zCq p n t=0 from by unfold zCq;rw [if_neg h41,if_neg (fun e=>e.elim (fun e=>hA e) (fun e=>e.elim (fun e=>hC e) (fun e=>e ht)))]];rfl⟩
theorem Bilinear_ok {p:Poly} {t:Rat} {R:Poly×Int} (hn:n<1000000) (hp:zM w v p) (hx:IsNum w u t) (h:zLX p n t=some R):Ret prog 53 #[v,.int .i64 (n:Int),u] w (fun r w'=>∃ y,r = .tuple #[y,.int .i64 R.2]∧zM w' y R.1):=by
 obtain ⟨xn,xd,rfl,hxn,hxd⟩:=hx;have hx:IsNum w (.agg #[.bool (decide (t<0)),xn,xd]) t:=⟨_,_,rfl,hxn,hxd⟩;clear hxn hxd;refine J0 30 func53 rfl (rj fun K => ?_);refine K1 (zk fun b1 w1 hb hE hB1 hs => ?_);have hgb1:w.heap.size≤b1:=by rw [hb];exact E0.size
 replace E0:=E0.trans hE;replace hp:=hp.ext hE;replace hx:=hx.ext hE;clear hE hs hb;refine ag (ag (rm [0,1,5] K ?_));refine zA (zA ?_);have hX:NumAt b1 t _:=⟨_,hB1,rfl,hx⟩;clear hB1 hx;refine rI fun K=>mv (K1 (zL rfl hX fun v12 N12=>K1 (j2 E0 hp.ext hX.ext hb131 (zMT hn hp N12) fun vi w2 E0 hp hX hr => ?_)));subst hr
 try clear N12
 refine ag (rs [0,1,5,8] K ?_);refine zA ?_;by_cases hz:zCq p n t=0
 · rw [hz];unfold zLX at h;rw [hz,if_neg (by decide)] at h;obtain ⟨c,hc1,h⟩:=bind_some h;obtain ⟨l,hl,rfl⟩:=map_some h;obtain ⟨hrr,hce⟩:=zCC hc1;clear hc1;refine rI fun K=>K8 rfl (rs [0,1,5,8,15] K ?_);refine wcf rfl (sk (zA ?_));have E00:=E0;have hX0:=E0.self;obtain ⟨SZ,hSZ⟩:=E0.szE;have hp1:=hp;refine zAN 4 [([],none),([(5,none)],none),([(17,some 1),(18,some 0)],none),([],none)] mixed (by kernel_rfl) (by kernel_rfl) (by kernel_rfl) (by kernel_rfl) (by kernel_rfl) fun K hK=>dcp (fun v w'=>IsNum w' v (2)) (fun _ _ _ _ hx h=>h.ext hx.toExt) (fun σ wx hE hk=>zC hb38 (CallK.of_ret (zBw (n:=2) (by decide) (by decide)) fun v w2 hX hr=>⟨hX,(by exact hr)⟩) rfl) (dcp (fun v w'=>IsNum w' v (t)) (fun _ _ _ _ hx h=>h.ext hx.toExt) (fun σ wx hE hk=>zL hk.1 (hX.ext hE) fun v h=>⟨Ext.refl _,h⟩) ?_);refine dcp (fun v w'=>IsNum w' v (c)) (fun _ _ _ _ hx h=>h.ext hx.toExt) (fun σ wx hE hk=>zC hb69 (CallK.of_ret (zDR hk.1 hk.2.1 hrr) fun v w2 hX hr=>⟨hX,(by rw [hce];exact hr)⟩) rfl) ?_;refine dcp (fun v w'=>∃ b,v = .pointer (some ⟨b,0,none⟩)∧Blk w' b 37 [.bool false,.slice none 0 0,.slice none 0 0]∧SZ≤b) (fun _ _ _ _ hx h=>(let ⟨b,e,hB,hg⟩:=h;⟨b,e,hB.ext hx.toExt,hg⟩)) (fun σ wx hE hk=>zK zAP fun b w2 hb hY hB hs=>⟨hY,b,rfl,hB,(by rw [hb,hSZ];exact (hX0.trans hE).size)⟩) ?_;refine zAR (hK _ fun wq hE => ?_)
   rintro v17 N17 v18 N18 v19 N19 v9 N9;refine zU ?_;replace E0:=E0.trans hE;replace hp:=hp.ext hE;replace hX:=hX.ext hE;replace hX0:=hX0.ext hE;clear hE;obtain ⟨gb,rfl,hBg,hgg⟩:=N9;refine K1 (zI rfl N19 (Cell3.of hBg rfl) fun _ w9 hU hC => ?_);have hgw:=E00.size;have hE2:=hX0.upd hU (by omega);replace E0:=E0.upd hU (by omega);replace hp:=hp1.ext hE2;clear hX0 hU hBg N19 hX hp1 E00;refine zAi (zN (K5 [0,1,9] ?_))
   refine zA (zAc [([(0,none)],none),([(9,none)],none),([(21,some 0)],none),([(9,none)],none),([(22,some 1),(23,some 0)],none),([],none),([],none),([(25,some 1),(26,some 0)],none),([(1,none)],none),([(20,some 8),(24,some 4),(27,some 1),(28,some 0)],none),([(29,some 0)],none),([],none)] mixed (by kernel_rfl) (by kernel_rfl) (by kernel_rfl) fun K hK=>dvp (fun σ wx hE hk=>zF ⟨Ext.refl _,hk.1⟩) (dcp (fun v w'=>IsNum w' v (c)) (fun _ _ _ _ hx h=>h.ext hx.toExt) (fun σ wx hE hk=>zL hk.1 (hC.ext hE) fun v h=>⟨Ext.refl _,h⟩) (dcp (fun v w'=>IsNum w' v (-c)) (fun _ _ _ _ hx h=>h.ext hx.toExt) (fun σ wx hE hk=>zC hb132 (CallK.of_ret (zIb hk.1) fun v w2 hX hr=>⟨hX,hr⟩) rfl) (dcp (fun v w'=>IsNum w' v (c)) (fun _ _ _ _ hx h=>h.ext hx.toExt) (fun σ wx hE hk=>zL hk.1 (hC.ext hE) fun v h=>⟨Ext.refl _,h⟩) (dcp (fun v w'=>zM w' v ([-c,c])) (fun _ _ _ _ hx h=>h.ext hx.toExt) (fun σ wx hE hk=>zBo hk.1 hk.2.1 fun v w2 hX h=>⟨hX,h⟩) (dcp (fun v w'=>IsNum w' v (1)) (fun _ _ _ _ hx h=>h.ext hx.toExt) (fun σ wx hE hk=>zC hb100 (CallK.of_ret (zDD) fun v w2 hX hr=>⟨hX,hr⟩) rfl) (dcp (fun v w'=>IsNum w' v (1)) (fun _ _ _ _ hx h=>h.ext hx.toExt) (fun σ wx hE hk=>zC hb100 (CallK.of_ret (zDD) fun v w2 hX hr=>⟨hX,hr⟩) rfl) (dcp (fun v w'=>zM w' v ([1,1])) (fun _ _ _ _ hx h=>h.ext hx.toExt) (fun σ wx hE hk=>zBo hk.1 hk.2.1 fun v w2 hX h=>⟨hX,h⟩) (dvp (fun σ wx hE hk=>zF ⟨Ext.refl _,hk.1⟩) (dcp (fun v w'=>zM w' v (l)) (fun _ _ _ _ hx h=>h.ext hx.toExt) (fun σ wx hE hk=>zC hb127 (CallK.eq4 rfl rfl rfl hk.2.2.2.1 (CallK.of_ret (zHH (n:=n) rfl (zM.of_eq hk.1 (hp.ext hE)) hk.2.1 hk.2.2.1 hn hl) fun v w2 hX hr=>⟨hX,hr⟩)) rfl) (dcp (fun v w'=>zM w' v (l)) (fun _ _ _ _ hx h=>h.ext hx.toExt) (fun σ wx hE hk=>zp ⟨Ext.refl _,hk.1⟩) (dvp (fun σ wx hE hk=>zp ⟨Ext.refl _,rfl⟩) (zAR (hK _ fun wq hE => ?_))))))))))))))
   rintro _ rfl v21 N21 v22 N22 v23 N23 v24 N24 v25 N25 v26 N26 v27 N27 _ rfl v29 N29 v6 N6 _ rfl;refine zU ?_;replace E0:=E0.trans hE;replace hp:=hp.ext hE;replace hC:=hC.ext hE;clear hE;refine zN (K5 [6,7] ?_);exact zE (zQ ⟨rfl,_,zn rfl rfl rfl,E0,_,rfl,N6⟩)
 · unfold zLX at h;rw [if_pos hz] at h;obtain rfl:=Option.some.inj h;refine rI fun K=>K9 (true) rfl (by simpa using hz) (rs [0,1,5,8,15] K ?_);refine wct rfl (rJ fun K=>ag (ag (rm [6,7] K ?_)));exact zE (zY (zQ ⟨rfl,_,zn rfl rfl rfl,E0,_,rfl,zM.nil⟩))
theorem Back_ok {p:Poly} {t:Rat} {R:Poly×Int} (hn:n<1000000) (hp:zM w v p) (hx:IsNum w u t) (h:backS p n t=some R):Ret prog 54 #[v,.int .i64 (n:Int),u] w (fun r w'=>∃ y,r = .tuple #[y,.int .i64 R.2]∧zM w' y R.1):=by
 obtain ⟨xn,xd,rfl,hxn,hxd⟩:=hx;have hx:IsNum w (.agg #[.bool (decide (t<0)),xn,xd]) t:=⟨_,_,rfl,hxn,hxd⟩;clear hxn hxd;refine J0 30 func54 rfl (rj fun K => ?_);refine K1 (zk fun b1 w1 hb hE hB1 hs => ?_);have hgb1:w.heap.size≤b1:=by rw [hb];exact E0.size
 replace E0:=E0.trans hE;replace hp:=hp.ext hE;replace hx:=hx.ext hE;clear hE hs hb;refine ag (ag (rm [0,1,5] K ?_));refine zA (zA ?_);have hX:NumAt b1 t _:=⟨_,hB1,rfl,hx⟩;clear hB1 hx;refine rI fun K=>mv (K1 (zL rfl hX fun v12 N12=>K1 (j2 E0 hp.ext hX.ext hb131 (zMT hn hp N12) fun vi w2 E0 hp hX hr => ?_)));subst hr
 try clear N12
 refine ag (rs [0,1,5,8] K ?_);refine zA ?_;by_cases hz:zCq p n t=0
 · rw [hz];unfold backS at h;rw [hz,if_neg (by decide)] at h;obtain ⟨c,hc1,h⟩:=bind_some h;obtain ⟨l,hl,rfl⟩:=map_some h;obtain ⟨hrr,hce⟩:=zCC hc1;clear hc1;refine rI fun K=>K8 rfl (rs [0,1,5,8,15] K ?_);refine wcf rfl (sk (zA ?_));have E00:=E0;have hX0:=E0.self;obtain ⟨SZ,hSZ⟩:=E0.szE;have hp1:=hp;refine zAN 4 [([(5,none)],none),([],none),([(17,some 1),(18,some 0)],none),([],none)] mixed (by kernel_rfl) (by kernel_rfl) (by kernel_rfl) (by kernel_rfl) (by kernel_rfl) fun K hK=>dcp (fun v w'=>IsNum w' v (t)) (fun _ _ _ _ hx h=>h.ext hx.toExt) (fun σ wx hE hk=>zL hk.1 (hX.ext hE) fun v h=>⟨Ext.refl _,h⟩) (dcp (fun v w'=>IsNum w' v (2)) (fun _ _ _ _ hx h=>h.ext hx.toExt) (fun σ wx hE hk=>zC hb38 (CallK.of_ret (zBw (n:=2) (by decide) (by decide)) fun v w2 hX hr=>⟨hX,(by exact hr)⟩) rfl) ?_);refine dcp (fun v w'=>IsNum w' v (c)) (fun _ _ _ _ hx h=>h.ext hx.toExt) (fun σ wx hE hk=>zC hb69 (CallK.of_ret (zDR hk.1 hk.2.1 hrr) fun v w2 hX hr=>⟨hX,(by rw [hce];exact hr)⟩) rfl) ?_;refine dcp (fun v w'=>∃ b,v = .pointer (some ⟨b,0,none⟩)∧Blk w' b 37 [.bool false,.slice none 0 0,.slice none 0 0]∧SZ≤b) (fun _ _ _ _ hx h=>(let ⟨b,e,hB,hg⟩:=h;⟨b,e,hB.ext hx.toExt,hg⟩)) (fun σ wx hE hk=>zK zAP fun b w2 hb hY hB hs=>⟨hY,b,rfl,hB,(by rw [hb,hSZ];exact (hX0.trans hE).size)⟩) ?_;refine zAR (hK _ fun wq hE => ?_)
   rintro v17 N17 v18 N18 v19 N19 v9 N9;refine zU ?_;replace E0:=E0.trans hE;replace hp:=hp.ext hE;replace hX:=hX.ext hE;replace hX0:=hX0.ext hE;clear hE;obtain ⟨gb,rfl,hBg,hgg⟩:=N9;refine K1 (zI rfl N19 (Cell3.of hBg rfl) fun _ w9 hU hC => ?_);have hgw:=E00.size;have hE2:=hX0.upd hU (by omega);replace E0:=E0.upd hU (by omega);replace hp:=hp1.ext hE2;clear hX0 hU hBg N19 hX hp1 E00;refine zAi (zN (K5 [0,1,9] ?_))
   refine zA (zAc [([(0,none)],none),([],none),([(9,none)],none),([(21,some 1),(22,some 0)],none),([],none),([(9,none)],none),([(25,some 0)],none),([(24,some 2),(26,some 0)],none),([(1,none)],none),([(20,some 8),(23,some 5),(27,some 1),(28,some 0)],none),([(29,some 0)],none),([],none)] mixed (by kernel_rfl) (by kernel_rfl) (by kernel_rfl) fun K hK=>dvp (fun σ wx hE hk=>zF ⟨Ext.refl _,hk.1⟩) (dcp (fun v w'=>IsNum w' v (1)) (fun _ _ _ _ hx h=>h.ext hx.toExt) (fun σ wx hE hk=>zC hb100 (CallK.of_ret (zDD) fun v w2 hX hr=>⟨hX,hr⟩) rfl) (dcp (fun v w'=>IsNum w' v (c)) (fun _ _ _ _ hx h=>h.ext hx.toExt) (fun σ wx hE hk=>zL hk.1 (hC.ext hE) fun v h=>⟨Ext.refl _,h⟩) (dcp (fun v w'=>zM w' v ([1,c])) (fun _ _ _ _ hx h=>h.ext hx.toExt) (fun σ wx hE hk=>zBo hk.1 hk.2.1 fun v w2 hX h=>⟨hX,h⟩) (dcp (fun v w'=>IsNum w' v (1)) (fun _ _ _ _ hx h=>h.ext hx.toExt) (fun σ wx hE hk=>zC hb100 (CallK.of_ret (zDD) fun v w2 hX hr=>⟨hX,hr⟩) rfl) (dcp (fun v w'=>IsNum w' v (c)) (fun _ _ _ _ hx h=>h.ext hx.toExt) (fun σ wx hE hk=>zL hk.1 (hC.ext hE) fun v h=>⟨Ext.refl _,h⟩) (dcp (fun v w'=>IsNum w' v (-c)) (fun _ _ _ _ hx h=>h.ext hx.toExt) (fun σ wx hE hk=>zC hb132 (CallK.of_ret (zIb hk.1) fun v w2 hX hr=>⟨hX,hr⟩) rfl) (dcp (fun v w'=>zM w' v ([1,-c])) (fun _ _ _ _ hx h=>h.ext hx.toExt) (fun σ wx hE hk=>zBo hk.1 hk.2.1 fun v w2 hX h=>⟨hX,h⟩) (dvp (fun σ wx hE hk=>zF ⟨Ext.refl _,hk.1⟩) (dcp (fun v w'=>zM w' v (l)) (fun _ _ _ _ hx h=>h.ext hx.toExt) (fun σ wx hE hk=>zC hb127 (CallK.eq4 rfl rfl rfl hk.2.2.2.1 (CallK.of_ret (zHH (n:=n) rfl (zM.of_eq hk.1 (hp.ext hE)) hk.2.1 hk.2.2.1 hn hl) fun v w2 hX hr=>⟨hX,hr⟩)) rfl) (dcp (fun v w'=>zM w' v (l)) (fun _ _ _ _ hx h=>h.ext hx.toExt) (fun σ wx hE hk=>zp ⟨Ext.refl _,hk.1⟩) (dvp (fun σ wx hE hk=>zp ⟨Ext.refl _,rfl⟩) (zAR (hK _ fun wq hE => ?_))))))))))))))
   rintro _ rfl v21 N21 v22 N22 v23 N23 v24 N24 v25 N25 v26 N26 v27 N27 _ rfl v29 N29 v6 N6 _ rfl;refine zU ?_;replace E0:=E0.trans hE;replace hp:=hp.ext hE;replace hC:=hC.ext hE;clear hE;refine zN (K5 [6,7] ?_);exact zE (zQ ⟨rfl,_,zn rfl rfl rfl,E0,_,rfl,N6⟩)
 · unfold backS at h;rw [if_pos hz] at h;obtain rfl:=Option.some.inj h;refine rI fun K=>K9 (true) rfl (by simpa using hz) (rs [0,1,5,8,15] K ?_);refine wct rfl (rJ fun K=>ag (ag (rm [6,7] K ?_)));exact zE (zY (zQ ⟨rfl,_,zn rfl rfl rfl,E0,_,rfl,zM.nil⟩))
theorem asked_pos {p:Poly} (h:asked p=0):1≤(trim p).length:=by
 unfold asked at h;split at h
 · cases h
 · split at h
   · cases h
   · next h1 h2=>have:=List.length_pos_iff.2 h2;omega
theorem asked_le {p:Poly} (h:asked p=0):(trim p).length≤41:=by
 unfold asked at h;split at h
 · cases h
 · omega
theorem zFE {u s q:Nat} (h:fn.results = #[.tmp t,.tmp u,.tmp s,.tmp q]) (hd:(dom ρ).contains t=true) (hu:(dom ρ).contains u=true) (hs:(dom ρ).contains s=true) (hq:(dom ρ).contains q=true):Gives P fn N ρ w (.tuple #[look1 ρ t,look1 ρ u,look1 ρ s,look1 ρ q]):=fun a hf=>by
 rw [show (results fn a.tmps).run P w = .ok (.tuple #[a.tmps.getD t undef,a.tmps.getD u undef,a.tmps.getD s undef,a.tmps.getD q undef]) w from by simp [results,h],hf.at_ t (by simpa using hd),hf.at_ u (by simpa using hu),hf.at_ s (by simpa using hs),hf.at_ q (by simpa using hq)]
theorem poly_len {p:Poly} (h:zM w v p):p.length≤4096:=by
 obtain ⟨pp,pc,e,h1,h2,h3⟩:=h;exact h3
theorem Schur_ok {p:Poly} {R:Int×Int×Int×Int} (hp:zM w v p) (h:zMJ p=some R) (hb1:0≤R.1) (hb2:R.1≤1000000) (hb3:0≤R.2.2.1) (hb4:R.2.2.1≤1000000):Ret prog 57 #[v] w (fun r _=>r = .tuple #[.int .i64 R.1,.int .i64 R.2.1,.int .i64 R.2.2.1,.int .i64 R.2.2.2]):=by
 refine J0 48 func57 rfl (rj fun K=>ag (ag (ag (ag (rm [0] K ?_)))));refine zA (rJ fun K=>K1 (j1 E0 hp.ext hb67 (zKP hp) fun vi w2 E0 hp hr => ?_));subst hr;refine ag (rm [0,6] K ?_);refine zA ?_;by_cases hz:asked p=0
 · rw [hz];unfold zMJ at h;rw [hz,if_neg (by decide)] at h;obtain ⟨l,hl,h⟩:=bind_some h;obtain ⟨RR,hR0,h⟩:=map_some h;obtain rfl:=h;replace hb1:0≤((trim l).length:Int)-1-RR.1-RR.2.1:=hb1;replace hb2:((trim l).length:Int)-1-RR.1-RR.2.1≤1000000:=hb2;replace hb3:0≤RR.1:=hb3;replace hb4:RR.1≤1000000:=hb4;have hl1:1≤(trim p).length:=asked_pos hz;have hl41:=asked_le hz;have hnn:((trim p).length:Int)-1=(((trim p).length-1:Nat):Int):=by omega
   refine rI fun K=>K8 rfl (rs [0,6,16] K ?_);refine wcf rfl (sk (rJ fun K=>K1 (j1 E0 hp.ext hb18 (zCK hp) fun vi w2 E0 hp hr => ?_)));subst hr;refine ag (rm [0,7] K ?_);refine rJ fun K=>K1 (j1 E0 hp.ext hb100 (zDD) fun v21 w2 E0 hp N21=>K1 (j2 E0 hp.ext N21.ext hb100 (zDD) fun v22 w2 E0 hp N21 N22=>K1 (zBo N21 N22 fun v23 w4 hE N23 => ?_)));replace E0:=E0.trans hE;replace hp:=hp.ext hE;clear hE N21 N22;refine K1 (j2 E0 hp.ext N23.ext hb100 (zDD) fun v24 w2 E0 hp N23 N24=>K1 (j3 E0 hp.ext N23.ext N24.ext hb38 (zBw (n := -1) (by decide) (by decide)) fun v25 w2 E0 hp N23 N24 N25 => ?_));replace N25:IsNum _ v25 (-1):=N25;refine K1 (zBo N24 N25 fun v26 w4 hE N26 => ?_);replace E0:=E0.trans hE;replace hp:=hp.ext hE;replace N23:=N23.ext hE;clear hE N24 N25;refine mv (K1 (j0 E0 hb127 (zHH (n:=(trim p).length-1) hnn hp N23 N26 (by omega) hl) fun v28 w2 E0 N28 => ?_));clear N23 N26 hp;refine ag (rm [7,8] K ?_);refine rJ fun K=>K1 (j1 E0 N28.ext hb72 (zLR N28 hR0) fun v31 w2 E0 N28 hr => ?_);obtain ⟨rfl,hr1,hr2⟩:=hr;refine mv (xt rfl (xt rfl (xt rfl (ag (ag (ag (rm [7,8,9,10] K ?_)))))));refine rJ fun K=>K1 (j0 E0 hb18 (zCK N28) fun vi w2 E0 hr => ?_);subst hr;have hll:=poly_len N28;have htl:=zBp l
   refine mv (K1 (zH (v := .int .i64 (((trim l).length:Int)-1-RR.1)) rfl rfl (congrArg (fun z=>some (Value.int .i64 z)) (zAG (by omega) (by omega))) (mv (K1 (zH (v := .int .i64 (((trim l).length:Int)-1-RR.1-RR.2.1)) rfl rfl (congrArg (fun z=>some (Value.int .i64 z)) (zAG (by omega) (by omega))) (ag (rm [7,9,12] K ?_)))))));refine rJ fun K=>mv (mv (K1 (zH (v := .int .i64 (((trim p).length:Int)-1-(((trim l).length:Int)-1-RR.1-RR.2.1))) rfl rfl (congrArg (fun z=>some (Value.int .i64 z)) (zAG (by omega) (by omega))) (mv (K1 (zH (v := .int .i64 (((trim p).length:Int)-1-(((trim l).length:Int)-1-RR.1-RR.2.1)-RR.1)) rfl rfl (congrArg (fun z=>some (Value.int .i64 z)) (zAG (by omega) (by omega))) (mv (ag (ag (ag (ag (rm [2,3,4,5] K ?_))))))))))));exact zE (zQ ⟨rfl,_,zFE rfl rfl rfl rfl rfl,E0,rfl⟩)
 · unfold zMJ at h;rw [if_pos hz] at h;obtain rfl:=Option.some.inj h;refine rI fun K=>K9 (true) rfl (by simpa using hz) (rs [0,6,16] K ?_);refine wct rfl (rJ fun K=>ag (ag (ag (ag (rm [2,3,4,5] K ?_)))));exact zE (zY (zQ ⟨rfl,_,zFE rfl rfl rfl rfl rfl,E0,rfl⟩))
variable {L a i:Nat}
theorem fit_powL (ha:a.log2<L) (hn:L*n<8796093022207) (hi:i≤n):Fit (a^i):=by
 refine zDi ?_;by_cases h0:a^i=0
 · rw [h0];decide
 have hL:a<2^L:=by
  by_cases hz:a=0
  · subst hz;exact Nat.pow_pos (by decide)
  · exact (Nat.log2_lt hz).1 ha
 have h1:a^i≤2^(L*i):=by rw [Nat.pow_mul];exact Nat.pow_le_pow_left (Nat.le_of_lt hL) i
 have h2:a^i<2^(L*i+1):=Nat.lt_of_le_of_lt h1 (Nat.pow_lt_pow_right (by decide) (by omega));have h3:=(Nat.log2_lt h0).2 h2;have h4:=Nat.mul_le_mul_left L hi;omega
theorem zFs (ha:a.log2<100000) (hn:n≤60) (hi:i≤n):Fit (a^i):=fit_powL ha (by omega) hi
theorem pow_num {x:Rat} (h:¬ x<0):∀ n:Nat,qOf false (x.num.natAbs^n) (x.den^n)=x^n:=fun n=>by
 have h0:(0:Int)≤x.num:=Rat.num_nonneg.2 (Rat.not_lt.1 h);have h1:((x.num.natAbs:Nat):Int)=x.num:=Int.natAbs_of_nonneg h0;have h2:qOf false (x.num.natAbs^n) (x.den^n)=mkRat (x.num^n) (x.den^n):=by
  unfold qOf sgn;rw [if_neg Bool.false_ne_true,Int.natCast_pow,h1]
 rw [h2]
 induction n with
 | zero=>rw [Int.pow_zero,Nat.pow_zero,Rat.pow_zero];decide
 | succ n ih =>
  have h3:qOf false (x.num.natAbs^n) (x.den^n)=mkRat (x.num^n) (x.den^n):=by
   unfold qOf sgn;rw [if_neg Bool.false_ne_true,Int.natCast_pow,h1]
  rw [Rat.pow_succ,← ih h3,Int.pow_succ,Nat.pow_succ,← Rat.mkRat_mul_mkRat,Rat.mkRat_self]
theorem zKS (ha:a.log2<100000):Fit a:=by
 have:=zFs (i:=1) (n:=1) ha (by decide) (Nat.le_refl _);rwa [Nat.pow_one] at this
theorem zMg {x:Rat} (hn:n≤60) (hx0:¬ x<0) (ha:x.num.natAbs.log2<100000) (hd:x.den.log2<100000) (hx:IsNum w v x):Ret prog 55 #[v,.int .i64 (n:Int)] w (fun r w'=>∃ u,r = .tuple #[u,.int .i64 0]∧IsNum w' u (x^n)):=by
 obtain ⟨xn,xd,rfl,hxn,hxd⟩:=hx;have h20:decide (x<0)=false:=decide_eq_false hx0;have hx:IsNum w (.agg #[.bool false,xn,xd]) x:=⟨_,_,by rw [h20],hxn,hxd⟩;rw [h20];clear hxd;have E0:Ext w w:=Ext.refl w;refine J0 62 func55 rfl (rj fun K => ?_);refine K1 (zk fun b1 w1 hb hE hB1 hs => ?_);have hgb1:w.heap.size≤b1:=by rw [hb];exact E0.size
 replace E0:=E0.trans hE;replace hx:=hx.ext hE;replace hxn:=hxn.ext hE;clear hE hs hb;refine K1 (zK zAP fun b2 w2 hb hE hB2 hs => ?_);have hgb2:w.heap.size≤b2:=by rw [hb];exact E0.size
 have ne_b1_b2:b1≠b2:=by have:=hB1.lt;omega
 replace E0:=E0.trans hE;replace hx:=hx.ext hE;replace hxn:=hxn.ext hE;replace hB1:=hB1.ext hE;clear hE hs hb;refine ag (rm [1,2,4] K ?_);refine zA (zG (rJ fun K=>K9 false rfl (decide_eq_false (by omega)) (mv (K7 (K2 (zH (v := .bool false) rfl rfl (congrArg (fun z=>some (Value.bool z)) (decide_eq_false (by omega))) (pc0 rfl (ag (rm [1,2,4,8] K ?_)))))))));refine wcf rfl (rJ fun K=>K9 false rfl (decide_eq_false (by omega)) (mv (K3 (K3 (K3 (K3 (pc0 rfl (ag (rm [1,2,4,16] K ?_)))))))));refine wcf rfl (rJ fun K=>K9 false rfl (decide_eq_false (by omega)) (ag (rm [1,2,4,26] K ?_)));refine wcf rfl (zz (zT (zN (zA ?_))));replace hB1:Blk _ b1 37 [.bool false,xn,xd]:=hB1;replace hB2:Blk _ b2 37 [.bool false,.slice none 0 0,.slice none 0 0]:=hB2;refine K6 fun K=>K1 (j4 E0 hx.ext hxn.ext hB1.ext hB2.ext hb106 (zHA _) fun v38 w2 E0 hx hxn hB1 hB2 hw1=>K1 (j5 E0 hx.ext hxn.ext hB1.ext hB2.ext hw1.ext hb106 (zHA _) fun v39 w2 E0 hx hxn hB1 hB2 hw1 hw2=>ag (ag (rs [1,2,4,6,7] K ?_))));refine zA (rJ fun K=>mv (rm [1,2,4,6,7,40,41] K ?_))
 refine zG (zo (X:=Nat) (fun i ρ w'=>∃ vp vq,Keep ρ [(1,.int .i64 (n:Int)),(2,.pointer (some ⟨b1,0,none⟩)),(4,.pointer (some ⟨b2,0,none⟩)),(6,vp),(7,vq),(40,.int .i64 (n:Int)),(41,.int .i64 ((i:Nat):Int))]∧i≤n∧Ext w w'∧Blk w' b1 37 [.bool false,xn,xd]∧Blk w' b2 37 [.bool false,.slice none 0 0,.slice none 0 0]∧IsNum w' (.agg #[.bool false,xn,xd]) x∧IsW w' xn x.num.natAbs∧IsW w' vp (x.num.natAbs^i)∧IsW w' vq (x.den^i)) (fun i=>n-i) 0 ⟨_,_,(kp rfl),Nat.zero_le _,E0,hB1,hB2,hx,hxn,hw1,hw2⟩ ?_);clear E0 hB1 hB2 hx hxn hw1 hw2;rintro i ρ1 w1 ⟨vp,vq,hk,hil,E0,hB1,hB2,hx,hxn,hP,hQ⟩;refine wpe_k _ hk ?_;clear hk ρ1;refine rj fun K=>K8 rfl (rm [1,2,4,6,7,40,41,42] K ?_);refine zA ?_;refine K0 rfl ?_ ?_<;>intro hc
 · have hlt:i<n:=t_lt hc;clear hc;refine sk (zA (zG (zAc [([(6,none)],none),([(2,none)],none),([(44,some 0)],none),([(43,some 2),(45,some 0)],none),([(7,none)],none),([(2,none)],none),([(48,some 0)],none),([(47,some 2),(49,some 0)],none),([(46,some 4)],none),([(50,some 1)],none)] mixed (by kernel_rfl) (by kernel_rfl) (by kernel_rfl) fun K hK=>dcp (fun v w'=>IsW w' v (x.num.natAbs^i)) (fun _ _ _ _ hx h=>h.ext hx.toExt) (fun σ wx hE hk=>zF ⟨Ext.refl _,IsW.of_eq hk.1 (hP.ext hE)⟩) (dvp (fun σ wx hE hk=>zB zBz hk.1 ⟨Ext.refl _,rfl⟩) (dvp (fun σ wx hE hk=>zD zAf hk.1 (hB1.ext hE) rfl ⟨Ext.refl _,rfl⟩) ?_)))));refine dcp (fun v w'=>IsW w' v (x.num.natAbs^(i+1))) (fun _ _ _ _ hx h=>h.ext hx.toExt) (fun σ wx hE hk=>zC hb103 (CallK.of_ret (zDk hk.1 (IsW.of_eq hk.2.1 (hxn.ext hE)) (zFs ha hn hil) (zKS ha)) fun v w2 hX hr=>⟨hX,(by rw [Nat.pow_succ];exact hr)⟩) rfl) ?_;refine dcp (fun v w'=>IsW w' v (x.den^i)) (fun _ _ _ _ hx h=>h.ext hx.toExt) (fun σ wx hE hk=>zF ⟨Ext.refl _,IsW.of_eq hk.1 (hQ.ext hE)⟩) (dvp (fun σ wx hE hk=>zW zAB hk.1 (hB1.ext hE) (Nat.le_of_ble_eq_true rfl) ⟨Ext.refl _,rfl⟩) (dcp (fun v w'=>IsW w' v (x.den)) (fun _ _ _ _ hx h=>h.ext hx.toExt) (fun σ wx hE hk=>zC hb104 (CallK.of_ret (zCH (IsNum.of_eq hk.1 (hx.ext hE))) fun v w2 hX hr=>⟨hX,(by exact hr)⟩) rfl) ?_))
   refine dcp (fun v w'=>IsW w' v (x.den^(i+1))) (fun _ _ _ _ hx h=>h.ext hx.toExt) (fun σ wx hE hk=>zC hb103 (CallK.of_ret (zDk hk.1 hk.2.1 (zFs hd hn hil) (zKS hd)) fun v w2 hX hr=>⟨hX,(by rw [Nat.pow_succ];exact hr)⟩) rfl) ?_;refine dcp (fun v w'=>IsW w' v (x.num.natAbs^(i+1))) (fun _ _ _ _ hx h=>h.ext hx.toExt) (fun σ wx hE hk=>zp ⟨Ext.refl _,hk.1⟩) (dcp (fun v w'=>IsW w' v (x.den^(i+1))) (fun _ _ _ _ hx h=>h.ext hx.toExt) (fun σ wx hE hk=>zp ⟨Ext.refl _,hk.1⟩) (zAR (hK _ fun wq hE => ?_)));rintro v43 N43 _ rfl _ rfl v46 N46 v47 N47 _ rfl v49 N49 v50 N50 v6 N6 v7 N7;refine zU ?_;replace E0:=E0.trans hE;replace hB1:=hB1.ext hE;replace hB2:=hB2.ext hE;replace hx:=hx.ext hE;replace hxn:=hxn.ext hE;replace hP:=hP.ext hE;replace hQ:=hQ.ext hE;clear hE;refine zT (zN (K5 [1,2,4,6,7,40,41] ?_));exact K6 fun K=>K8 rfl (mv (rl K (zV (⟨rfl,i+1,⟨_,_,⟨rfl,rfl,rfl,rfl,rfl,rfl,rfl,rfl,rfl,rfl,rfl,rfl,rfl,congrArg (Value.int .i64) (zAD (by omega)),trivial⟩,by omega,E0,hB1,hB2,hx,hxn,N6,N7⟩,by omega⟩))))
 · have hge:=f_lt hc;obtain rfl:i=n:=by omega
   clear hc;refine zi (zAE (zv (zP (zN (rj fun K=>K1 (zB zCf rfl (K1 (zD zBm rfl hB1 rfl (mv (K3 (K3 (K3 (pc0 rfl (mv (mv ?_)))))))))))))));refine K1 (j1 E0 hB2.ext hb102 (zBT hP hQ (Nat.pos_iff_ne_zero.1 (Nat.pow_pos x.den_pos)) (zFs ha hn (Nat.le_refl _)) (zFs hd hn (Nat.le_refl _))) fun v61 w2 E0 hB2 hq1 => ?_);rw [pow_num hx0] at hq1;refine K1 (zI rfl hq1 (Cell3.of hB2 rfl) fun _ w9 hU hN => ?_);replace E0:=E0.upd hU hgb2;obtain ⟨cs,hB4,hl4,hN4⟩:=hN;refine ag (rm [1,2,4,5,40,41] K ?_);exact zE (zQ ⟨rfl,_,zu rfl rfl rfl rfl zAB hB4 hl4,E0,_,rfl,hN4⟩)
variable {T ty:TypeId} {af:Array Edge} {b c:Nat} {cs:List Value} {g:Option (Nat×Bool)} {pos:String} {q:Rat} {r:Option Nat} {w':World} {x y:Operand} {σ:Operand→Value}
section
variable {K:Value→World→Prop} {d:Option Tmp}
theorem zKm {a b:Int} (h1:σ x = .int .i64 a) (h2:σ y = .int .i64 b) (hk:K (.int .i64 (mx a b)) w):Runs P r ⟨d,.call { callee := .builtin .max,args := #[x,y],argTypes := #[T,T] },ty,pos,af,g⟩ σ w K:=by
 refine zl (fun _ e=>by cases e) ?_ hk;simp [execOp,resolve,h1,h2,invoke,builtin,Builtin.max_,Builtin.max2,mx]
def mn (a b:Int):Int:=if b<a then b else a
theorem runs_min2 {a b:Int} (h1:σ x = .int .i64 a) (h2:σ y = .int .i64 b) (hk:K (.int .i64 (mn a b)) w):Runs P r ⟨d,.call { callee := .builtin .min,args := #[x,y],argTypes := #[T,T] },ty,pos,af,g⟩ σ w K:=by
 refine zl (fun _ e=>by cases e) ?_ hk;simp [execOp,resolve,h1,h2,invoke,builtin,Builtin.min_,Builtin.min2,mn]
end
def evS (n:Nat) (s:Rat×Rat):Rat×Rat:=if n%2=0∧¬ 0<s.2 then sortS (-s.2) (-s.1) else s
def powS (n:Nat) (a b:Rat):Rat×Rat:=((evS n (sortS a b)).1^n,(evS n (sortS a b)).2^n)
def okPow (x:Rat):Bool:=decide (¬ x<0)&&(decide (x.num.natAbs.log2<100000)&&decide (x.den.log2<100000))
def powOk (n:Nat) (a b:Rat):Bool:=decide (n≤60)&&(rroom a b&&(rroom (-(sortS a b).2) (-(sortS a b).1)&&(okPow (evS n (sortS a b)).1&&okPow (evS n (sortS a b)).2)))
theorem zFz {x:Rat} (h:okPow x=true):¬ x<0∧x.num.natAbs.log2<100000∧x.den.log2<100000:=by
 unfold okPow at h;simp only [Bool.and_eq_true,decide_eq_true_eq] at h;exact h
theorem powOk_of {a b:Rat} (h:powOk n a b=true):n≤60∧rroom a b=true∧rroom (-(sortS a b).2) (-(sortS a b).1)=true∧okPow (evS n (sortS a b)).1=true∧okPow (evS n (sortS a b)).2=true:=by
 unfold powOk at h;simp only [Bool.and_eq_true,decide_eq_true_eq] at h;exact h
theorem rsign_nle {x:Rat}:decide (rsign x≤0)=decide (¬ 0<x):=by
 rw [decide_eq_decide];exact zMF x
theorem rsign_nlt {x:Rat} (h:¬ x<0):decide (rsign x<0)=false:=by
 rw [decide_eq_false_iff_not];unfold rsign;rw [Int.sign_neg_iff];have h0:(0:Int)≤x.num:=Rat.num_nonneg.2 (Rat.not_lt.1 h);omega
theorem tmod2 (n:Nat):(n:Int).tmod 2=((n%2:Nat):Int):=rfl
theorem zAj.updC {T:Nat} {p:Rat} (h:zAj b p q w) (hu:Upd c w w') (hc:Blk w c T cs) (hT:T≠164) (hT2:T≠47):zAj b p q w':=by
 obtain ⟨cs',h1,h2,h3⟩:=h;exact ⟨cs',h1.upd hu (fun e=>by subst e;exact hT2 (hc.inj h1).1),h2,h3.updT hu hc hT⟩
theorem SpanPow_ok {a b:Rat} (hx:zw w u a b) (hok:powOk n a b=true):Ret prog 283 #[u,.int .i64 (n:Int)] w (fun r w'=>zw w' r (powS n a b).1 (powS n a b).2):=by
 obtain ⟨hn,hr1,hr2,h7,h8⟩:=powOk_of hok;have o7:=zFz h7;have o8:=zFz h8;clear hok h7 h8;have E0:Ext w w:=Ext.refl w;refine J0 63 func283 rfl (rj fun K => ?_);refine K1 (zk fun b1 w1 hb hE hB1 hs => ?_);have hgb1:w.heap.size≤b1:=by rw [hb];exact E0.size
 have hS:=zES hB1 (hx.ext hE);replace E0:=E0.trans hE;clear hE hs hb hx hB1;refine K1 (zK zero47' fun b3 w2 hb hE hB3 hs => ?_);have hgb3:w.heap.size≤b3:=by rw [hb];exact E0.size
 have ne13:b1≠b3:=by have:=hS.lt;omega
 replace E0:=E0.trans hE;replace hS:=hS.ext hE;clear hE hs hb;refine rm [1,2,4] K ?_;refine rJ fun K=>K1 (zKm rfl rfl (K1 (runs_min2 rfl rfl ?_)));rw [show mn (mx (n:Int) 0) 64=(n:Int) from by unfold mn mx;split<;>split<;>omega];refine ag (rm [1,2,4] K ?_);refine rj fun K=>K1 (zAL rfl hS fun v12 N12=>K1 (zC hb325 (CallK.of_ret (zDv N12 hr1) fun v13 w2 hE N13 => ?_) rfl));replace E0:=E0.trans hE;replace hS:=hS.ext hE;replace hB3:=hB3.ext hE;clear hE N12;refine K1 (zAm rfl N13 hS fun w8 hU hS' => ?_);replace E0:=E0.upd hU hgb1;replace hB3:=hB3.upd hU ne13.symm;clear hU hS N13;have hS:=hS';clear hS';refine rm [1,2,4] K ?_;refine zCJ (fun ρ w'=>Keep ρ [(1,.int .i64 (n:Int)),(2,.pointer (some ⟨b1,0,none⟩)),(4,.pointer (some ⟨b3,0,none⟩))]∧Ext w w'∧zAj b1 (evS n (sortS a b)).1 (evS n (sortS a b)).2 w'∧Blk w' b3 47 [.bool false,.slice none 0 0,.slice none 0 0,.bool false,.slice none 0 0,.slice none 0 0]) ?_ ?_
 · refine zA ?_;rcases Nat.mod_two_eq_zero_or_one n with hm | hm
   · have he:(n:Int).tmod 2=0:=by have:=tmod2 n;omega
     refine rI fun K=>K1 (zDW rfl rfl (by decide) ?_);refine K9 true rfl (by rw [he];rfl) ?_;refine mv (K2 (zB zCW rfl (K2 (zBE rfl hS fun v19 N19=>K2 (zC hb19 (CallK.of_ret (zAY N19) fun vi w2 hE hr => ?_) rfl)))));subst hr;replace E0:=E0.trans hE;replace hS:=hS.ext hE;replace hB3:=hB3.ext hE;clear hE N19;refine K2 (zH (v := .bool (decide (¬ 0<(sortS a b).2))) rfl rfl (congrArg (fun z=>some (Value.bool z)) rsign_nle) (pc0 rfl (rs [1,2,4,22] K ?_)));refine K0 rfl ?_ ?_<;>intro hc
     · have hlo:=of_decide_eq_true hc;clear hc;have hev:(evS n (sortS a b))=sortS (-(sortS a b).2) (-(sortS a b).1):=if_pos ⟨hm,hlo⟩;refine K6 fun K=>K1 (zAL rfl hS fun v23 N23=>K1 (zC hb284 (CallK.of_ret (zId N23 hr2) fun v24 w2 hE N24 => ?_) rfl));replace E0:=E0.trans hE;replace hS:=hS.ext hE;replace hB3:=hB3.ext hE;clear hE N23;refine K1 (zAm rfl N24 hS fun w8 hU hS' => ?_);replace E0:=E0.upd hU hgb1;replace hB3:=hB3.upd hU ne13.symm;clear hU hS N24;have hS:=hS';clear hS';refine rl K (zV ?_);exact ⟨rfl,(kp rfl),E0,by rw [hev];exact hS,hB3⟩
     · have hlo:=of_decide_eq_false hc;clear hc;have hev:(evS n (sortS a b))=(sortS a b):=if_neg (fun h=>hlo h.2);refine zz (zV ?_);exact ⟨rfl,(kp rfl),E0,by rw [hev];exact hS,hB3⟩
   · have he:(n:Int).tmod 2=1:=by have:=tmod2 n;omega
     have hev:(evS n (sortS a b))=(sortS a b):=if_neg (by omega);refine rI fun K=>K1 (zDW rfl rfl (by decide) ?_);refine K9 false rfl (by rw [he];rfl) ?_;refine mv (K3 (K3 (K3 (K3 (pc0 rfl (rs [1,2,4,22] K ?_))))));refine wcf rfl (zz (zV ?_));exact ⟨rfl,(kp rfl),E0,by rw [hev];exact hS,hB3⟩
 · clear E0 hS hB3;rintro ρ1 w1 ⟨hk,E0,hS,hB3⟩;refine wpe_k _ hk ?_;clear hk ρ1;refine zCJ (fun ρ w'=>Keep ρ [(1,.int .i64 (n:Int)),(2,.pointer (some ⟨b1,0,none⟩)),(4,.pointer (some ⟨b3,0,none⟩))]∧Ext w w'∧zAj b1 (evS n (sortS a b)).1 (evS n (sortS a b)).2 w'∧Blk w' b3 47 [.bool false,.slice none 0 0,.slice none 0 0,.bool false,.slice none 0 0,.slice none 0 0]) ?_ ?_
   · refine zA ?_;rcases (show n=0∨(0<n∧(n:Int).tmod 2=1)∨(0<n∧(n:Int).tmod 2=0) from by have:=tmod2 n;omega) with h0 | ⟨h0,he⟩ | ⟨h0,he⟩
     · skip
       refine rI fun K=>K9 false rfl (decide_eq_false (by omega)) (mv (K3 (K3 (K3 (pc0 rfl (mv (K3 (K3 (K3 (K3 (pc0 rfl (rl K ?_))))))))))));refine zN (K5 [1,2,4,37] ?_);exact wcf rfl (zz (zV ⟨rfl,(kp rfl),E0,hS,hB3⟩))
     · skip
       refine rI fun K=>K9 true rfl (decide_eq_true (by omega)) (mv (K7 (K2 (zDW rfl rfl (by decide) ?_))));refine K2 (zH (v := .bool false) rfl rfl (congrArg (fun z=>some (Value.bool z)) (by rw [he];rfl)) ?_);refine pc0 rfl (mv (K3 (K3 (K3 (K3 (pc0 rfl (rs [1,2,4,37] K ?_)))))));exact wcf rfl (zz (zV ⟨rfl,(kp rfl),E0,hS,hB3⟩))
     · skip
       refine rI fun K=>K9 true rfl (decide_eq_true (by omega)) (mv (K7 (K2 (zDW rfl rfl (by decide) ?_))));refine K2 (zH (v := .bool true) rfl rfl (congrArg (fun z=>some (Value.bool z)) (by rw [he];rfl)) ?_);refine pc0 rfl (mv (K2 (zB zCA rfl (K2 (zAo rfl hS fun v34 N34=>K2 (zC hb19 (CallK.of_ret (zAY N34) fun vi w2 hE hr => ?_) rfl))))));subst hr;replace E0:=E0.trans hE;replace hS:=hS.ext hE;replace hB3:=hB3.ext hE;clear hE N34;refine K2 (zH (v := .bool false) rfl rfl (congrArg (fun z=>some (Value.bool z)) (rsign_nlt o7.1)) (pc0 rfl (rs [1,2,4,37] K ?_)));exact wcf rfl (zz (zV ⟨rfl,(kp rfl),E0,hS,hB3⟩))
   · clear E0 hS hB3;rintro ρ1 w1 ⟨hk,E0,hS,hB3⟩;refine wpe_k _ hk ?_;clear hk ρ1;refine rj fun K=>K1 (zB zCA rfl (K1 (zAo rfl hS fun v7 N7=>mv (K1 (zC hb55 (CallK.of_ret (zMg hn o7.1 o7.2.1 o7.2.2 N7) fun v7b w2 hE hr => ?_) rfl)))));obtain ⟨u7,rfl,P7⟩:=hr;replace E0:=E0.trans hE;replace hS:=hS.ext hE;replace hB3:=hB3.ext hE;clear hE N7;refine mv (xt rfl (xt rfl ?_));refine K1 (zK zAP fun c7 w3 hb hE hBc hs => ?_);have hgc:w.heap.size≤c7:=by rw [hb];exact E0.size
     have ne3:b3≠c7:=by have:=hB3.lt;omega
     replace E0:=E0.trans hE;replace hS:=hS.ext hE;replace hB3:=hB3.ext hE;replace P7:=P7.ext hE;clear hE hs hb;refine K1 (zI rfl P7 (Cell3.of hBc rfl) fun _ w4 hU hC5 => ?_);replace E0:=E0.upd hU hgc;replace hB3:=hB3.upd hU ne3;replace hS:zAj b1 _ _ w4:=hS.updC hU hBc (by decide) (by decide);clear hU hBc hgc P7;refine ag (rm [1,2,4,5] K ?_);refine rj fun K=>K1 (zB zCW rfl (K1 (zBE rfl hS fun v8 N8=>mv (K1 (zC hb55 (CallK.of_ret (zMg hn o8.1 o8.2.1 o8.2.2 N8) fun v8b w2 hE hr => ?_) rfl)))));obtain ⟨u8,rfl,P8⟩:=hr;replace E0:=E0.trans hE;replace hS:=hS.ext hE;replace hB3:=hB3.ext hE;replace hC5:=hC5.ext hE;clear hE N8;refine mv (xt rfl (xt rfl ?_));refine K1 (zK zAP fun c8 w3 hb hE hBc hs => ?_);have hgc:w.heap.size≤c8:=by rw [hb];exact E0.size
     have ne3:b3≠c8:=by have:=hB3.lt;omega
     have ne5:c7≠c8:=by obtain ⟨_,h,_⟩:=hC5;have:=h.lt;omega
     replace E0:=E0.trans hE;replace hS:=hS.ext hE;replace hB3:=hB3.ext hE;replace P8:=P8.ext hE;replace hC5:=hC5.ext hE;clear hE hs hb;refine K1 (zI rfl P8 (Cell3.of hBc rfl) fun _ w4 hU hC6 => ?_);replace E0:=E0.upd hU hgc;replace hB3:=hB3.upd hU ne3;replace hS:zAj b1 _ _ w4:=hS.updC hU hBc (by decide) (by decide);replace hC5:=hC5.upd hU hBc ne5;clear hU hBc hgc P8;refine ag (rm [1,2,4,5,7] K ?_);refine rj fun K=>K1 (zL rfl hC5 fun v60 N60=>K1 (zL rfl hC6 fun v61 N61=>K1 (zBN N60 N61 fun v62 N62=>K1 (zAC rfl N62 hB3 rfl fun w9 cs9 hU hN hl9 hS9 => ?_))));replace E0:=E0.upd hU hgb3;clear hU hB3;refine rm [1,2,4] K ?_;exact zE (zQ ⟨rfl,_,zx rfl rfl rfl aggr47' hN hl9,E0,hS9⟩)
variable {E b2 bx s0:Nat} {cs':List Value} {m:List (List Nat×Rat)} {rows:List (List Value)} {w2:World}
def KB (a b:World):Prop:=(∀ x T cs,T≠303→T≠398→Blk a x T cs→Blk b x T cs)∧a.heap.size≤b.heap.size
theorem KB.refl (a:World):KB a a:=⟨fun _ _ _ _ _ h=>h,Nat.le_refl _⟩
theorem KB.ext {a b c:World} (h:KB a b) (hx:Ext b c):KB a c:=⟨fun x T cs h1 h2 hB=>(h.1 x T cs h1 h2 hB).ext hx,Nat.le_trans h.2 hx.size⟩
theorem KB.upd {a b c:World} {y T:Nat} (h:KB a b) (hu:Upd y b c) (hB:Blk b y T cs) (hT:T=303∨T=398):KB a c:=⟨fun x T' cs' h1 h2 hB'=>by
 have h3:=h.1 x T' cs' h1 h2 hB';exact h3.upd hu fun e=>by subst e;exact hT.elim (fun e=>h1 ((h3.inj hB).1.trans e)) fun e=>h2 ((h3.inj hB).1.trans e),by rw [hu.size];exact h.2⟩
theorem KB.near {a b c:World} {sz:Nat} {x:List Nat} (h:KB a b) (hN:NearR 303 sz x b c):KB a c:=⟨fun y T cs h1 h2 hB=>hN.blk y T cs (.inr (.inr h1)) (h.1 y T cs h1 h2 hB),Nat.le_trans h.2 hN.size⟩
theorem KB.oth {a b c:World} {l:Nat} (h:KB a b) (hO:OthX l b c):KB a c:=⟨fun x T cs h1 h2 hB=>(h.1 x T cs h1 h2 hB).oth hO,by rw [hO.size];exact h.2⟩
theorem Blk.otherK {T T':Nat} (h:Blk w b T cs) (hu:Upd c w w') (hc:Blk w c T' cs') (hT:T≠T'):Blk w' b T cs:=h.upd hu fun e=>by subst e;exact hT (h.inj hc).1
theorem RowB.leK {sz:Nat} {x:List Nat} (h:RowB E n sz x w v rows) (hx:BlkLe w w'):RowB E n sz x w' v rows:=by
 obtain ⟨h0,p,c,h1,h2,h3⟩:=h;refine ⟨h0,p,c,h1,h2,?_⟩;rcases h3 with h3 | ⟨b,cs,k1,k2,k3,k4⟩
 · exact .inl h3
 · exact .inr ⟨b,cs,k1,k2,k3,hx _ _ _ k4.1,k4.2⟩
theorem zMa:prog.underlying 398=some (.slice 303):=by kernel_rfl
theorem zLv:Plain prog 398:=by unfold Plain;exact ⟨by kernel_rfl,by kernel_rfl⟩
theorem size398:(prog.info? 398).map (·.size)=some 1:=by kernel_rfl
def rowsK (x:List (List Nat)):List (List Value):=x.map fun k=>(pk k).cells.toList
def SubK (m:List (List Nat×Rat)) (x:List (List Nat)):Prop:=(∀ k,k∈x→k∈m.map (·.1))∧x.Nodup
theorem zIs {α:Type} [DecidableEq α]:∀ (l m:List α),l.Nodup→(∀ x∈l,x∈m)→l.length≤m.length
 | [],_,_,_=>Nat.zero_le _
 | a :: l,m,hn,hs=>by
  rw [List.nodup_cons] at hn;have ha:=hs a List.mem_cons_self;have h1:=zIs l (m.erase a) hn.2 fun x hx=>(List.mem_erase_of_ne (fun e=>hn.1 (by subst e;exact hx))).2 (hs x (List.mem_cons_of_mem _ hx));rw [List.length_erase_of_mem ha] at h1;have:=List.length_pos_of_mem ha;rw [List.length_cons];omega
theorem info303a:(prog.info? 303).map (fun i=>(i.zero,i.size,i.bytes))=some (some (.agg #[.int .i64 0,.int .i64 0,.int .i64 0,.int .i64 0,.int .i64 0,.int .i64 0,.int .i64 0,.int .i64 0]),8,64):=by kernel_rfl
theorem info303b:(prog.info? 303).map (fun i=>(i.zero,i.size))=some (some (.agg #[.int .i64 0,.int .i64 0,.int .i64 0,.int .i64 0,.int .i64 0,.int .i64 0,.int .i64 0,.int .i64 0]),8):=by kernel_rfl
theorem row398:RowT prog 398 303 8:=⟨zMa,_,_,info303a,rfl,by decide,by decide⟩
section
variable {K:Value→World→Prop} {d:Option Tmp}
theorem runs_oneKey {k:List Nat} (hy:σ y=pk k) (hkw:Pw k) (hk:∀ v w',Ext w w'→zEX 303 w.heap.size (pk k).cells.toList v w'→K v w'):Runs prog r ⟨d,.buildSlice 398 1 #[(0,y)],ty,pos,af,g⟩ σ w K:=by
 refine zR (cs:=(pk k).cells.toList) zMa info303b (by decide) (by decide) ?_ fun b w' hb hE hB hs=>hk _ _ hE ⟨b,rfl,Nat.le_of_eq hb.symm,hB⟩;obtain ⟨hl,_⟩:=hkw
 match k,hl,hy with
 | [a0,a1,a2,a3,a4,a5,a6,a7],_,hy =>
  show Instr.fill _ _ [(0,σ y)]=_;rw [hy]
  kernel_rfl
end
theorem rows_push (x:List (List Nat)) (k:List Nat):rowsK (x++[k])=rowsK x++[(pk k).cells.toList]:=by simp [rowsK]
theorem SubK.push {x:List (List Nat)} {k:List Nat} (h:SubK m x) (h1:k∈m.map (·.1)) (h2:k ∉ x):SubK m (x++[k]):=by
 refine ⟨fun j hj => ?_,?_⟩
 · rcases List.mem_append.1 hj with hj | hj
   · exact h.1 j hj
   · simp at hj;subst hj;exact h1
 · rw [List.nodup_append];refine ⟨h.2,by simp,fun a ha b hb => ?_⟩;simp at hb;subst hb;intro e;subst e;exact h2 ha
theorem SubK.len {x:List (List Nat)} (h:SubK m x):x.length≤m.length:=by
 have:=zIs x (m.map (·.1)) h.2 h.1
 rwa [List.length_map] at this
def AccI (w:World) (b2 s0:Nat) (m:List (List Nat×Rat)) (x:List (List Nat)) (w':World):Prop:=∃ va,SubK m x∧Ext w w'∧Blk w' b2 398 [va]∧RowB 303 8 w.heap.size [] w' va (rowsK x)∧s0≤w'.heap.size
theorem AccI.ext {x:List (List Nat)} (h:AccI w b2 s0 m x w') (hx:Ext w' w2):AccI w b2 s0 m x w2:=by
 obtain ⟨va,h1,h2,h3,h4,h5⟩:=h;exact ⟨va,h1,h2.trans hx,h3.ext hx,h4.ext hx,Nat.le_trans h5 hx.size⟩
theorem AccI.oth {l:Nat} {x:List (List Nat)} (h:AccI w b2 s0 m x w') (hO:OthX l w' w2) (hl:w.heap.size≤l):AccI w b2 s0 m x w2:=by
 obtain ⟨va,h1,h2,h3,h4,h5⟩:=h;exact ⟨va,h1,h2.oth hO hl,h3.oth hO,h4.leK hO.le,by rw [hO.size];exact h5⟩
theorem appendSeq_ok (hkp:∀ k,k∈m.map (·.1)→Pw k) (hml:m.length≤50000) (hBx:Blk w bx 299 [.map (some b)]) (hm:IsMap w b m):Ret prog 384 #[.slice none 0 0,.func (.func 380) #[] #[.pointer (some ⟨bx,0,none⟩)]] w (fun r w'=>∃ x,finK m x∧SubK m x∧RowB 303 8 w.heap.size [] w' r (rowsK x)):=by
 have E0:Ext w w:=Ext.refl w;refine zFb 13 func384 rfl rfl (Nat.le_of_ble_eq_true rfl) (rj fun K => ?_);refine K1 (zk fun b2 w1 hb hE hB2 hs => ?_);have hgb2:w.heap.size≤b2:=by rw [hb];exact E0.size
 replace E0:=E0.trans hE;replace hBx:=hBx.ext hE;replace hm:=hm.ext hE;replace hB2:Blk _ b2 398 [.slice none 0 0]:=hB2;clear hE hb hs;refine ag (rm [1,2] K ?_);refine zA (rJ fun K=>rm [2,6] K ?_);refine zG ?_;have hl1:=E0.size
 refine wpe_rangeX (X:=List (List Nat)) rfl rfl hb380 (by decide) (AccI w b2 _ m) KpM [] (finK m) (stepK m)
  (fun i j args w1 h=>by obtain ⟨k,e,_⟩:=h;rw [e];rfl)
  (fun w2 hE=>⟨_,⟨fun k h=>absurd h List.not_mem_nil,List.nodup_nil⟩,E0.trans hE,hB2.ext hE,RowB.nil,hE.size⟩)
  (fun i w2 w3 hI hE=>hI.ext hE)
  (fun i l w2 w3 hl hI hO=>hI.oth hO (by omega))
  (fun l J hJe hJi hJr hy w2 hE h0=>keys1_ok (m:=m) l J hJe hJi (fun i w3 hJ=>(hJr i w3 hJ).choose_spec.2.2.2.2) hkp hy (hBx.ext hE) (hm.ext hE) h0)
  ?_ ?_
 clear E0 hB2 hBx hm
 · rintro l x x' args w2 hl ⟨lo,hlo⟩ ⟨va,hS,E0,hB2,hR,hS0⟩ ⟨k,rfl,hkm,hkn,rfl⟩;refine wpe_k [(2,.pointer (some ⟨b2,0,none⟩)),(7,pk k)] (kp rfl) ?_;have hwl:=Nat.le_trans hl1 hl;have hkw:=hkp k hkm;have hKB:=KB.refl w2;have hxl:=(hS.push hkm hkn).len;refine K6 fun K => ?_;refine K1 (zK zKA fun b5 w7 hb hE hB5 hs => ?_);have hgb5:w.heap.size≤b5:=by rw [hb];exact E0.size
   have hNC:=NC.ext hE;replace E0:=E0.trans hE;replace hB2:=hB2.ext hE;replace hR:=(hR.new (y:=b5) (Nat.le_of_eq hb.symm)).ext hE;replace hKB:=hKB.ext hE;clear hE hb hs;refine K1 (zFe rfl rfl hkw hB5 ⟨rfl,by simp⟩ fun w9 hU hN => ?_);replace hNC:=hNC.trans (NC.upd hU hB5);replace hKB:=hKB.upd hU hB5 (.inl rfl);replace E0:=E0.upd hU hgb5;replace hB2:=hB2.otherK hU hB5 (by decide);replace hR:=hR.updX hU (by simp);clear hU hB5 hgb5;have hB5:=hN;clear hN;replace hR:=hR.sub (y:=[]) (by simp);refine rl K ⟨rfl,rfl,hNC,fun w5 hO => ?_⟩;have hP1:∀ (k:Nat) (o:Obj),w2.heap[k]? = some o→o.isCells=false→(∀ lo,o≠.loop lo)→w5.heap[k]? = some o:=fun j o h1 h2 h3=>by
    rw [hO.block j (fun e=>by subst e;rw [hlo] at h1;cases h1;exact h3 _ rfl)];exact hNC _ _ h1 h2
   replace E0:=E0.oth hO hwl;replace hB2:=hB2.oth hO;replace hR:=hR.leK hO.le;replace hB5:=hB5.oth hO;replace hKB:=hKB.oth hO;clear hO hNC;have hNC:NCx w5 w5:=NC.refl w5;refine zG (K6 fun K=>K1 (zD zLv rfl hB2 rfl (K1 (zCO rfl hB5 hkw (K1 (runs_oneKey rfl hkw fun v10 w3 hE N10 => ?_))))));replace E0:=E0.trans hE;replace hB2:=hB2.ext hE;replace hR:=hR.ext hE;replace hKB:=hKB.ext hE;replace hNC:=hNC.ext hE;clear hE hB5;refine K1 (zHC row398 rfl hR N10 (by rw [zCF,List.length_map,hkw.1]) (by rw [zCF];simp [zBl]) (by rw [List.length_append] at hxl;simp [rowsK] at hxl ⊢;omega) E0.size (by simp) fun v11 w3 hN hR2 => ?_);replace E0:=hN.ext _ (Nat.le_refl _) E0;replace hB2:=hN.blk _ _ _ (.inr (.inr (by decide))) hB2;replace hKB:=hKB.near hN;replace hNC:=hNC.tr hN.nc;clear hN N10 hR;obtain ⟨p11,c11,rfl⟩:=hR2.form;refine K1 (zZ size398 rfl hB2 rfl (Nat.le_of_ble_eq_true rfl) (by decide) rfl fun w9 hU hN => ?_);replace hNC:=hNC.tr (NC.upd hU hB2);replace hKB:=hKB.upd hU hB2 (.inr rfl);replace E0:=E0.upd hU hgb2;replace hR2:=hR2.upd hU hB2 (by decide);clear hU hB2;have hB2:Blk w9 b2 398 [.slice p11 (rowsK x++[(pk k).cells.toList]).length c11]:=hN;clear hN;refine rl K (zT ?_)
   refine ⟨rfl,hNC,fun w8 hO=>⟨⟨_,hS.push hkm hkn,E0.oth hO hwl,hB2.oth hO,by rw [rows_push];exact hR2.leK hO.le,by rw [hO.size];exact Nat.le_trans hS0 hKB.2⟩,fun j o h1 h2 h3 => ?_,(hKB.oth hO).1⟩⟩;rw [hO.block j (fun e=>by subst e;rw [hlo] at h1;cases h1;exact h3 _ rfl)];exact hNC _ _ (hP1 _ _ h1 h2 h3) h2
 · rintro x D w2 hfx hD ⟨va,hS,E0,hB2,hR,-⟩ hDf;have hDg:DefAt D _:=hDf;clear hDf;refine zT (zN (rj fun K=>K1 (zD zLv rfl hB2 rfl (ag (rm [4] K ?_)))));exact zE (zQ (⟨D,_,rfl,hDg,fun w3 hO=>⟨zm rfl rfl,E0.oth hO (Nat.le_trans hl1 hD),x,hfx,hS,hR.leK hO.le⟩⟩))
def KeysF (b:Nat) (v:Value) (w:World):Prop:=∃ bx,v = .func (.func 380) #[] #[.pointer (some ⟨bx,0,none⟩)]∧Blk w bx 299 [.map (some b)]
def zFl (m:List (List Nat×Rat)) (s0:Nat) (v:Value) (w:World):Prop:=∃ x,finK m x∧SubK m x∧RowB 303 8 s0 [] w v (rowsK x)
theorem zFl.sz {s1:Nat} (h:zFl m s0 v w) (hs:s1≤s0):zFl m s1 v w:=by
 obtain ⟨x,h1,h2,h3⟩:=h;exact ⟨x,h1,h2,h3.sz hs⟩
theorem Keys_ok:Ret prog 369 #[.map (some b)] w (fun r w'=>KeysF b r w'):=by
 refine J0 4 func369 rfl (rj fun K => ?_);refine K1 (zk fun bx w1 hb hE hBx hs => ?_);replace E0:=E0.trans hE;clear hE hs hb;replace hBx:Blk _ bx 299 [.map (some b)]:=hBx;refine ag (rm [1] K ?_);refine rj fun K=>K1 (zBL (ag (rm [2] K ?_)));exact zE (en rfl E0 ⟨bx,rfl,hBx⟩)
theorem Collect_ok (hkp:∀ k,k∈m.map (·.1)→Pw k) (hml:m.length≤50000) (hv:KeysF b v w) (hm:IsMap w b m):Ret prog 378 #[v] w (fun r w'=>zFl m w.heap.size r w'):=by
 obtain ⟨bx,rfl,hBx⟩:=hv;have E0:Ext w w:=Ext.refl w;refine J0 5 func378 rfl (rj fun K=>ag (rm [0] K ?_));refine rj fun K=>mv ?_;have hsz:=E0.size;refine K1 (j0 E0 hb384 (appendSeq_ok hkp hml hBx hm) fun v4 w2 E0 hr => ?_);replace hr:zFl m w.heap.size v4 w2:=zFl.sz hr hsz;refine ag (rm [2] K ?_);exact zE (en rfl E0 hr)
variable {ab bb:Nat} {nd:Int} {ve:Value} {w0:World}
theorem els_at {es:List El} (h:i<es.length):8*i+8≤(es.map elc).flatten.length∧((es.map elc).flatten.drop (8*i)).take 8=elc (es.getD i el0):=by
 refine ⟨?_,by rw [zLE (zMs es) (by simpa using h),zLC h el0]⟩;rw [zEF (zMs es),List.length_map];omega
def NKp (w0 w:World):Prop:=NC w0 w∧∀ b T cs,T≠119→T≠169→Blk w0 b T cs→Blk w b T cs
theorem NKp.refl (w:World):NKp w w:=⟨NC.refl w,fun _ _ _ _ _ h=>h⟩
theorem NKp.ext {a b c:World} (h:NKp a b) (hx:Ext b c):NKp a c:=⟨h.1.trans (NC.ext hx),fun x T cs h1 h2 hB=>(h.2 x T cs h1 h2 hB).ext hx⟩
theorem NKp.upd {a b c:World} {x T:Nat} (h:NKp a b) (hu:Upd x b c) (hB:Blk b x T cs) (hT:T=119∨T=169):NKp a c:=⟨h.1.trans (NC.upd hu hB),fun y T' cs' h1 h2 hB'=>by
 have h3:=h.2 y T' cs' h1 h2 hB';exact h3.upd hu fun e=>by subst e;exact hT.elim (fun e=>h1 ((h3.inj hB).1.trans e)) fun e=>h2 ((h3.inj hB).1.trans e)⟩
theorem NKp.near {a b c:World} {sz:Nat} {x:List Nat} (h:NKp a b) (hN:NearR 119 sz x b c):NKp a c:=⟨h.1.trans hN.nc,fun y T cs h1 h2 hB=>hN.blk y T cs (.inr (.inr h1)) (h.2 y T cs h1 h2 hB)⟩
theorem map_take {rows es:List El} (h:i<es.length):(rows++es.take (i+1)).map elc=(rows++es.take i).map elc++[elc (es.getD i el0)]:=by
 rw [List.take_succ_eq_append_getElem h,← List.append_assoc,List.map_append,List.getD_eq_getElem?_getD,List.getElem?_eq_getElem h];rfl
theorem zGE {ac:Nat} {rows es:List El} (E0:Ext w w0) (hgbb:w.heap.size≤bb) (hB:Blk w0 bb 169 [.int .i64 (nd),ve,.slice none 0 0]) (hA:Blk w0 ab 119 (es.map elc).flatten) (hR:RowB 119 8 w.heap.size [ab] w0 ve (rows.map elc)) (hl:rows.length+es.length≤1000):CallK prog 108 #[.pointer (some ⟨bb,0,none⟩),.slice (some ⟨ab,0,none⟩) es.length ac] w0 (fun r w'=>r = .int .i64 (tops nd es)∧Ext w w'∧NKp w0 w'∧∃ ve',Blk w' bb 169 [.int .i64 (tops nd es),ve',.slice none 0 0]∧RowB 119 8 w.heap.size [ab] w' ve' ((rows++es).map elc)):=by
 have hNK:=NKp.refl w0;refine zBj 49 func108 rfl rfl (Nat.le_of_ble_eq_true rfl) (rj fun K=>ag (rm [0,1] K ?_));refine zA (rJ fun K=>K1 (zJ zEr rfl (mv (rm [0,7,8,9] K ?_))));refine zG (zo (X:=Nat) (fun i ρ w'=>∃ ve,Keep ρ [(0,.pointer (some ⟨bb,0,none⟩)),(7,.slice (some ⟨ab,0,none⟩) es.length ac),(8,.int .i64 (es.length:Nat)),(9,.int .i64 (i:Nat))]∧i≤es.length∧Ext w w'∧Blk w' bb 169 [.int .i64 (tops nd (es.take i)),ve,.slice none 0 0]∧Blk w' ab 119 (es.map elc).flatten∧RowB 119 8 w.heap.size [ab] w' ve ((rows++es.take i).map elc)∧NKp w0 w') (fun i=>es.length-i) 0 ⟨_,(kp rfl),Nat.zero_le _,E0,hB,hA,by simpa using hR,hNK⟩ ?_);clear E0 hB hA hR hNK;rintro i ρ1 w1 ⟨ve,hk,hil,E0,hB,hA,hR,hNK⟩;refine wpe_k _ hk ?_;clear hk ρ1;have ne_bb_ab:bb≠ab:=fun e=>by subst e;exact absurd (hB.inj hA).1 (by decide)
 refine rj fun K=>K8 rfl (rm [0,7,8,9,10] K ?_);refine zA ?_;refine K0 rfl ?_ ?_<;>intro hc
 · have hlt:i<es.length:=t_lt hc;clear hc;obtain ⟨he1,he2⟩:=els_at hlt;generalize hee:es.getD i el0=e at he2;refine sk (zA (zG (rj fun K=>K1 (zBO zEr rfl rfl hlt (K1 (zJA rfl rfl hA he1 he2 ?_))))));refine K1 (zK zero119 fun b1 w1 hb hE hB1 hs => ?_);have hgb1:w.heap.size≤b1:=by rw [hb];exact E0.size
   have ne_bb_b1:bb≠b1:=by have:=hB.lt;omega
   have ne_ab_b1:ab≠b1:=by have:=hA.lt;omega
   replace hR:=hR.new (y:=b1) (Nat.le_of_eq hb.symm);replace E0:=E0.trans hE;replace hB:=hB.ext hE;replace hA:=hA.ext hE;replace hR:=hR.ext hE;replace hNK:=hNK.ext hE;clear hE hs hb;refine K1 (zZ size119 rfl hB1 rfl (Nat.le_of_ble_eq_true rfl) (by decide) rfl fun w2 hU hN => ?_);replace E0:=E0.upd hU hgb1;replace hR:=hR.updX hU (by simp);replace hB:=hB.upd hU ne_bb_b1;replace hA:=hA.upd hU ne_ab_b1;replace hNK:=hNK.upd hU hB1 (by decide);clear hB1;have hB1:=hN;clear hN hU;replace hB1:Blk _ b1 119 (elc e):=hB1;refine rm [0,6,7,8,9] K ?_
   refine zA (wpe_tailM 0 8 [([(0,none)],none),([(0,none)],none),([(14,some 0)],none),([(15,some 0)],none),([(16,some 0)],none),([(17,some 0)],none),([(6,none)],none),([(19,some 0)],none)] mixed (by kernel_rfl) (by kernel_rfl) (by kernel_rfl) (by kernel_rfl) (by kernel_rfl) (by kernel_rfl) fun K hK=>dvp (fun σ wx hE hk=>zF ⟨Ext.refl _,hk.1⟩) (dvp (fun σ wx hE hk=>zF ⟨Ext.refl _,hk.1⟩) (dvp (fun σ wx hE hk=>zAI hk.1 ⟨Ext.refl _,rfl⟩) (dvp (fun σ wx hE hk=>zB zFW hk.1 ⟨Ext.refl _,rfl⟩) (dvp (fun σ wx hE hk=>zB zHs hk.1 ⟨Ext.refl _,rfl⟩) (dvp (fun σ wx hE hk=>zD zGh hk.1 (hB.ext hE) rfl ⟨Ext.refl _,rfl⟩) (dvp (fun σ wx hE hk=>zW zMk hk.1 (hB1.ext hE) (Nat.le_of_ble_eq_true rfl) ⟨Ext.refl _,rfl⟩) (dcp (fun v w'=>zEX 119 0 (elc e) v w') (fun _ _ _ _ hx h=>h.ext hx.toExt) (fun σ wx hE hk=>zDq hk.1 fun v w2 hX h=>⟨hX,h.le (Nat.zero_le _)⟩) (zAR (hK _ fun wq hE => ?_))))))))));rintro _ rfl _ rfl _ rfl _ rfl _ rfl _ rfl _ rfl v20 N20;refine zU ?_;replace E0:=E0.trans hE;replace hB:=hB.ext hE;replace hA:=hA.ext hE;replace hR:=hR.ext hE;replace hNK:=hNK.ext hE;replace hB1:=hB1.ext hE;clear hE;refine K1 (zHC row79 rfl hR N20 (elc_len _) rfl (by rw [List.length_map,List.length_append,List.length_take];omega) E0.size (all2 hB1.lt hA.lt) fun v21 w3 hN hR2 => ?_)
   replace E0:=hN.ext _ (Nat.le_refl _) E0;replace hNK:=hNK.near hN;replace hB:=hN.blk _ _ _ (.inr (.inr (by decide))) hB;replace hA:=hN.blk _ _ _ (.inr (.inl (by simp))) hA;replace hB1:=hN.blk _ _ _ (.inr (.inl (by simp))) hB1;clear hR;have hR:=hR2;clear hR2 hN N20;obtain ⟨p21,c21,rfl⟩:=hR.form;refine K1 (zAI rfl (K1 (zB zFW rfl (K1 (zB zHs rfl (K1 (zZ size79 rfl hB rfl (Nat.le_of_ble_eq_true rfl) (by decide) rfl fun w3 hU hN => ?_)))))));replace E0:=E0.upd hU hgbb;replace hA:=hA.upd hU (Ne.symm ne_bb_ab);replace hR:=hR.upd hU hB (by decide);replace hNK:=hNK.upd hU hB (by decide);replace hB1:=hB1.upd hU (Ne.symm ne_bb_b1);clear hB;have hB:=hN;clear hN hU;refine zAi (zN (K5 [0,6,7,8,9] ?_))
   refine zEy 15 [([(0,none)],none),([(0,none)],none),([(26,some 0)],none),([(27,some 0)],none),([(28,some 0)],none),([(29,some 0)],none),([(6,none)],none),([(31,some 0)],none),([(6,none)],none),([(33,some 0)],none),([(6,none)],none),([(35,some 0)],none),([(6,none)],none),([(37,some 0)],none),([(30,some 8),(32,some 6),(34,some 4),(36,some 2),(38,some 0)],none)] mixed (by kernel_rfl) (by kernel_rfl) (by kernel_rfl) (by kernel_rfl) (by kernel_rfl) fun K hK=>dvp (fun σ wx hE hk=>zF ⟨Ext.refl _,hk.1⟩) (dvp (fun σ wx hE hk=>zF ⟨Ext.refl _,hk.1⟩) (dvp (fun σ wx hE hk=>zAI hk.1 ⟨Ext.refl _,rfl⟩) (dvp (fun σ wx hE hk=>zB zFW hk.1 ⟨Ext.refl _,rfl⟩) (dvp (fun σ wx hE hk=>zB zLi hk.1 ⟨Ext.refl _,rfl⟩) (dvp (fun σ wx hE hk=>zD zBR hk.1 (hB.ext hE) rfl ⟨Ext.refl _,rfl⟩) (dvp (fun σ wx hE hk=>zB fo119_1 hk.1 ⟨Ext.refl _,rfl⟩) (dvp (fun σ wx hE hk=>zD zBR hk.1 (hB1.ext hE) rfl ⟨Ext.refl _,rfl⟩) (dvp (fun σ wx hE hk=>zB fo119_2 hk.1 ⟨Ext.refl _,rfl⟩) (dvp (fun σ wx hE hk=>zD zBR hk.1 (hB1.ext hE) rfl ⟨Ext.refl _,rfl⟩) (dvp (fun σ wx hE hk=>zB fo119_3 hk.1 ⟨Ext.refl _,rfl⟩) (dvp (fun σ wx hE hk=>zD zBR hk.1 (hB1.ext hE) rfl ⟨Ext.refl _,rfl⟩) (dvp (fun σ wx hE hk=>zB fo119_4 hk.1 ⟨Ext.refl _,rfl⟩) (dvp (fun σ wx hE hk=>zD zBR hk.1 (hB1.ext hE) rfl ⟨Ext.refl _,rfl⟩) ?_)))))))))))))
   refine dvp (fun σ wx hE hk=>runs_max5 hk.1 hk.2.1 hk.2.2.1 hk.2.2.2.1 hk.2.2.2.2.1 ⟨Ext.refl _,rfl⟩) (zAR (hK _ fun wq hE => ?_));rintro _ rfl _ rfl _ rfl _ rfl _ rfl _ rfl _ rfl _ rfl _ rfl _ rfl _ rfl _ rfl _ rfl _ rfl _ rfl;refine zU ?_;replace E0:=E0.trans hE;replace hB:=hB.ext hE;replace hA:=hA.ext hE;replace hR:=hR.ext hE;replace hNK:=hNK.ext hE;replace hB1:=hB1.ext hE;clear hE;refine K1 (zAI rfl (K1 (zB zFW rfl (K1 (zB zLi rfl (K1 (zZ size3 rfl hB rfl (Nat.le_of_ble_eq_true rfl) (by decide) rfl fun w4 hU hN => ?_)))))));replace E0:=E0.upd hU hgbb;replace hA:=hA.upd hU (Ne.symm ne_bb_ab);replace hR:=hR.upd hU hB (by decide);replace hNK:=hNK.upd hU hB (by decide);replace hB1:=hB1.upd hU (Ne.symm ne_bb_b1);clear hB;have hB:=hN;clear hN hU;replace hB:Blk _ bb 169 [.int .i64 (topE (tops nd (es.take i)) e),.slice p21 _ c21,.slice none 0 0]:=hB;refine zAi (zT (zN (K5 [0,7,8,9] ?_)));refine K6 fun K=>K8 rfl (mv (rl K (zV (⟨rfl,i+1,⟨.slice p21 ((rows++es.take i).map elc++[elc e]).length c21,⟨rfl,rfl,rfl,rfl,rfl,rfl,rfl,congrArg (Value.int .i64) (zAD (by omega)),trivial⟩,by omega,E0,?_,hA,?_,hNK⟩,by omega⟩))))
   · rw [tops_take hlt,hee];exact hB
   · rw [map_take hlt,hee];exact hR.sub (by simp)
 · have hge:=f_lt hc;obtain rfl:i=es.length:=by omega
   clear hc;rw [List.take_length] at hB hR;refine zi (zAE (zv (zP (zN (rJ fun K=>K1 (zAI rfl (K1 (zB zFW rfl (K1 (zB zLi rfl (K1 (zD zBR rfl hB rfl (ag (rm [0,4,7,8,9] K ?_))))))))))))));exact zE (zQ ⟨rfl,_,zm rfl rfl,rfl,E0,hNK,_,hB,hR⟩)
theorem put_ok {ac:Nat} {rows es:List El} (E0:Ext w w0) (hgbb:w.heap.size≤bb) (hB:Blk w0 bb 169 [.int .i64 (nd),ve,.slice none 0 0]) (hA:Blk w0 ab 119 (es.map elc).flatten) (hR:RowB 119 8 w.heap.size [ab] w0 ve (rows.map elc)) (hl:rows.length+es.length≤1000):CallK prog 108 #[.pointer (some ⟨bb,0,none⟩),.slice (some ⟨ab,0,none⟩) es.length ac] w0 (fun r w'=>r = .int .i64 (tops nd es)∧Ext w w'∧∃ ve',Blk w' bb 169 [.int .i64 (tops nd es),ve',.slice none 0 0]∧RowB 119 8 w.heap.size [ab] w' ve' ((rows++es).map elc)) :=
 (zGE E0 hgbb hB hA hR hl).mono fun _ _ ⟨h1,h2,_,h3⟩=>⟨h1,h2,h3⟩
variable {f:FuncId} {p:Option Addr}
def badE (e:El):Bool:=decide ((zr e.v).2≠0)
def NetIs (w:World) (v:Value) (n:Int) (es:List El):Prop:=∃ p c,v = .agg #[.int .i64 n,.slice p es.length c,.slice none 0 0]∧RowR 119 8 w p (es.map elc)
def doneS (n:Int) (es:List El):Int×List El×Int:=if es.any badE then (0,[],3) else (n,es,0)
theorem zDm:NetIs w (.agg #[.int .i64 0,.slice none 0 0,.slice none 0 0]) 0 []:=⟨none,0,rfl,.inl rfl⟩
theorem drop_consE {l:List El} (h:i<l.length):l.drop i=l.getD i el0 :: l.drop (i+1):=by
 rw [List.drop_eq_getElem_cons h];simp [h]
theorem row_e {es:List El} (h:RowR 119 8 w p (es.map elc)) (hi:i<es.length):∃ b cs,p=some ⟨b,0,none⟩∧Blk w b 119 cs∧8*i+8≤cs.length∧(cs.drop (8*i)).take 8=elc (es.getD i el0):=by
 obtain ⟨b,cs,h1,h2,h3,h4⟩:=h.at (by simpa using hi);exact ⟨b,cs,h1,h2,h3,by rw [h4,zLC hi el0]⟩
theorem Check_ok {l:List UInt8} (hl:l.length<1000000000):Ret prog 197 #[S l] w (fun r _=>r = .int .i64 (zr l).2):=by
 refine J0 11 func197 rfl (rj fun K=>ag (rm [0] K ?_));refine rJ fun K=>K1 (j0 E0 hb65 (zJT hl) fun vu w2 E0 hr => ?_);obtain ⟨u1,rfl,hu1⟩:=hr;refine mv (xt rfl (xt rfl ?_));refine K1 (zK zAP fun bc w3 hb hE hBc hs => ?_);have hgc:w.heap.size≤bc:=by rw [hb];exact E0.size
 replace E0:=E0.trans hE;replace hu1:=hu1.ext hE;clear hE hb hs;refine K1 (zI rfl hu1 (Cell3.of hBc rfl) fun _ w4 hU hNA => ?_);replace E0:=E0.upd hU hgc;clear hU hNA hBc hu1;refine ag (rm [4] K ?_);refine rJ fun K=>ag (rm [2] K ?_);exact zE (en rfl E0 rfl)
theorem bad_ok {e:El} (hl:e.v.length<1000000000):Ret prog 196 #[.agg (elc e).toArray] w (fun r _=>r = .bool (badE e)):=by
 refine J0 7 func196 rfl (rj fun K => ?_);refine K1 (zk fun b1 w1 hb hE hB1 hs => ?_);have hgb1:w.heap.size≤b1:=by rw [hb];exact E0.size
 replace E0:=E0.trans hE;clear hE hs hb;refine ag (rm [1] K ?_);refine rj fun K=>K1 (zB zLF rfl (K1 (zD zCm rfl hB1 rfl (K1 (j1 E0 hB1.ext hb197 (Check_ok (l:=e.v) hl) fun vi w2 E0 hB1 hr => ?_)))));subst hr;refine K8 rfl (ag (rm [2] K ?_));refine zE (zQ ?_);exact ⟨rfl,_,zm rfl rfl,E0,congrArg Value.bool (by unfold badE;by_cases h:(zr e.v).2=0<;>simp [h,bne])⟩
theorem IndexE_ok {es:List El} {pr:El→Bool} (hR:RowR 119 8 w p (es.map elc)) (hl:es.length<100000) (hf:zAq prog f) (hsig:∀ i,i<es.length→∀ (w':World),Ext w w'→Ret prog f #[.agg (elc (es.getD i el0)).toArray] w' (fun u _=>u = .bool (pr (es.getD i el0)))):Ret prog 272 #[.slice p es.length c,.func (.func f) #[] #[]] w (fun u _=>u = .int .i64 (idxL pr es 0)):=by
 have E0:Ext w w:=Ext.refl w;refine J0 19 func272 rfl (rj fun K=>ag (rm [0,1] K ?_));refine zA (rJ fun K=>K1 (zJ zEr rfl (mv (rm [0,1,7,8] K ?_))));refine zG (zo (X:=Nat) (fun i ρ w'=>Keep ρ [(0,.slice p es.length c),(1,.func (.func f) #[] #[]),(7,.int .i64 (es.length:Nat)),(8,.int .i64 (i:Nat))]∧i≤es.length∧Ext w w'∧idxL pr (es.drop i) i=idxL pr es 0) (fun i=>es.length-i) 0 ⟨(kp rfl),Nat.zero_le _,E0,rfl⟩ ?_);clear E0;rintro i ρ1 w1 ⟨hk,hil,E0,hI⟩;refine wpe_k _ hk ?_;clear hk ρ1;refine rj fun K=>K8 rfl (rm [0,1,7,8,9] K ?_);refine zA ?_;refine K0 rfl ?_ ?_<;>intro hc
 · have hlt:i<es.length:=t_lt hc;clear hc;obtain ⟨eb,ecs,rfl,heB,he1,he2⟩:=row_e (hR.ext E0) hlt;rw [drop_consE (by omega),idxL] at hI;refine sk (zA (zG (rJ fun K=>ag (rm [0,1,5,7,8] K ?_))));refine rJ fun K=>mv (mv (K1 (zBO zEr rfl rfl hlt (K1 (zJA rfl rfl heB he1 he2 (K1 (zBU rfl hf (CallK.of_ret (hsig i hlt _ E0) fun v19 w2 hE hr => ?_))))))));subst hr;replace E0:=E0.trans hE;clear hE heB he1 he2;refine rm [0,1,5,7,8,16] K ?_;refine K0 rfl ?_ ?_<;>intro hc
   · have hcc2:pr (es.getD i el0)=true:=hc;clear hc;rw [if_pos hcc2] at hI;refine rJ fun K=>ag (rm [0,1,4,7,8] K ?_);refine zE (zh (zY (zAr (zh (zY (zQ ?_))))));exact ⟨rfl,_,zm rfl rfl,E0,by rw [← hI];rfl⟩
   · have hcc2:pr (es.getD i el0)=false:=hc;clear hc;rw [if_neg (by rw [hcc2];decide)] at hI;exact zz (zT (zN (K6 fun K=>K8 rfl (mv (rl K (zV (⟨rfl,i+1,⟨⟨rfl,rfl,rfl,rfl,rfl,rfl,rfl,congrArg (Value.int .i64) (zAD (by omega)),trivial⟩,by omega,E0,hI⟩,by omega⟩)))))))
 · have hge:=f_lt hc;obtain rfl:i=es.length:=by omega
   clear hc;rw [List.drop_eq_nil_of_le (by omega),idxL] at hI;refine zi (zAE (zv (zP (zN (rj fun K=>ag (rm [0,1,4,7,8] K ?_))))));refine zE (zQ ?_);exact ⟨rfl,_,zm rfl rfl,E0,by rw [← hI];rfl⟩
theorem ContainsE_ok {es:List El} {pr:El→Bool} (hR:RowR 119 8 w p (es.map elc)) (hl:es.length<100000) (hf:zAq prog f) (hsig:∀ i,i<es.length→∀ (w':World),Ext w w'→Ret prog f #[.agg (elc (es.getD i el0)).toArray] w' (fun u _=>u = .bool (pr (es.getD i el0)))):Ret prog 195 #[.slice p es.length c,.func (.func f) #[] #[]] w (fun u _=>u = .bool (es.any pr)):=by
 refine J0 9 func195 rfl (rj fun K=>ag (rm [0,1] K ?_));refine rJ fun K=>mv (K1 (j0 E0 hb272 (IndexE_ok hR hl hf hsig) fun vi w2 E0 hr => ?_));subst hr;refine K8 rfl (ag (rm [4] K ?_));refine zE (zQ ?_);exact ⟨rfl,_,zm rfl rfl,E0,congrArg Value.bool (by
  rcases @zFF _ pr es 0 with ⟨e1,e2⟩ | ⟨e1,e2,e3⟩
  · rw [e2];exact decide_eq_false (by omega)
  · rw [e3];exact decide_eq_true (by omega))⟩
theorem done_ok {es:List El} (hB:Blk w bb 169 [.int .i64 nd,.slice p es.length c,.slice none 0 0]) (hR:RowR 119 8 w p (es.map elc)) (hl:es.length<100000) (hv:∀ i,i<es.length→(es.getD i el0).v.length<1000000000):Ret prog 109 #[.pointer (some ⟨bb,0,none⟩)] w (fun r w'=>∃ v,r = .tuple #[v,.int .i64 (doneS nd es).2.2]∧NetIs w' v (doneS nd es).1 (doneS nd es).2.1):=by
 refine J0 15 func109 rfl (rj fun K => ?_);refine K1 (zK zNd fun b1 w1 hb hE hB1 hs => ?_);have hgb1:w.heap.size≤b1:=by rw [hb];exact E0.size
 have ne_bb_b1:bb≠b1:=by have:=hB.lt;omega
 replace E0:=E0.trans hE;replace hB:=hB.ext hE;clear hE hs hb;refine ag (rm [0,2] K ?_);refine zA (rJ fun K=>K1 (zAI rfl (K1 (zB zFW rfl (K1 (zB zHs rfl (K1 (zD zGh rfl hB rfl (K1 (j2 E0 hB.ext hB1.ext hb195 (ContainsE_ok (pr:=badE) (hR.ext E0) hl hb196 fun i hi w2 hE=>bad_ok (hv i hi)) fun vi w2 E0 hB hB1 hr => ?_))))))))));subst hr;refine rm [0,2,9] K ?_;refine K0 rfl ?_ ?_<;>intro hc
 · have hany:es.any badE=true:=hc;clear hc;refine rj fun K=>K1 (zj (cs := #[.int .i64 0,.slice none 0 0,.slice none 0 0]) (by kernel_rfl) (K1 (zZ zGO rfl hB1 rfl (Nat.le_of_ble_eq_true rfl) (by decide) rfl fun w2 hU hN => ?_)));replace E0:=E0.upd hU hgb1;replace hB:=hB.upd hU ne_bb_b1;clear hB1;have hB1:=hN;clear hN hU;refine ag (rm [2,3] K ?_);refine zE (zY (zQ ?_));rw [show doneS nd es=(0,[],3) from if_pos hany];exact ⟨rfl,_,zu rfl rfl rfl rfl zFq hB1 rfl,E0,_,rfl,zDm⟩
 · have hany:es.any badE=false:=hc;clear hc;refine sk (rJ fun K=>K1 (zAI rfl (K1 (zB zFW rfl (K1 (zW zFq rfl hB (Nat.le_of_ble_eq_true rfl) (K1 (zZ zGO rfl hB1 rfl (Nat.le_of_ble_eq_true rfl) (by decide) rfl fun w2 hU hN => ?_))))))));replace E0:=E0.upd hU hgb1;replace hB:=hB.upd hU ne_bb_b1;clear hB1;have hB1:=hN;clear hN hU;refine ag (rm [2,3] K ?_);refine zE (zQ ?_);rw [show doneS nd es=(nd,es,0) from if_neg (by rw [hany];decide)];exact ⟨rfl,_,zu rfl rfl rfl rfl zFq hB1 rfl,E0,_,rfl,p,c,rfl,hR.ext E0⟩
end Go.Proofs.YtjiendlfobjanaaGreatDoor
namespace Go.Proofs.YtjiendlfobjanaaGreatDoor
open Go Go.RowKit Go.Proofs Tryz
variable {T ty:TypeId} {af:Array Edge} {b c j n o:Nat} {box:List (Rat×Rat)} {cs:List Value} {g:Option (Nat×Bool)} {m:List (List Nat×Rat)} {p:Option Addr} {pos:String} {ps:List Nat} {q:Rat} {r:Option Nat} {s:Rat×Rat} {u v vp:Value} {w w':World} {x y:Operand} {σ:Operand→Value}
theorem zGS:prog.underlying 102=some (.slice 122):=by kernel_rfl
theorem zJw:prog.underlying 120=some (.slice 3):=by kernel_rfl
theorem zGU:prog.underlying 198=some (.slice 47):=by kernel_rfl
theorem zNC:(prog.info? 122).map (fun i=>(i.zero,i.size,i.bytes))=some (some (.agg #[.string ⟨#[]⟩,.slice none 0 0]),2,40):=by kernel_rfl
theorem zNo:(prog.info? 47).map (fun i=>(i.zero,i.size,i.bytes))=some (some (.agg #[.bool false,.slice none 0 0,.slice none 0 0,.bool false,.slice none 0 0,.slice none 0 0]),6,112):=by kernel_rfl
theorem zCu:zAZ prog 102 122 2:=by unfold zAZ;exact ⟨by kernel_rfl,by kernel_rfl⟩
theorem zGP:zAZ prog 103 113 2:=by unfold zAZ;exact ⟨by kernel_rfl,by kernel_rfl⟩
theorem zFK:zAZ prog 198 47 6:=by unfold zAZ;exact ⟨by kernel_rfl,by kernel_rfl⟩
theorem zJs:zAZ prog 398 303 8:=by unfold zAZ;exact ⟨by kernel_rfl,by kernel_rfl⟩
theorem zKz:Aggr prog 122 2:=by unfold Aggr;exact ⟨by kernel_rfl,by kernel_rfl⟩
theorem zMj:Aggr prog 113 2:=by unfold Aggr;exact ⟨by kernel_rfl,by kernel_rfl⟩
theorem zLL:(prog.info? 122).bind (·.zero)=some (.agg #[.string ⟨#[]⟩,.slice none 0 0]):=by kernel_rfl
theorem zero113:(prog.info? 113).bind (·.zero)=some (.agg #[.string ⟨#[]⟩,.string ⟨#[]⟩]):=by kernel_rfl
theorem size122:(prog.info? 122).map (·.size)=some 2:=by kernel_rfl
theorem size113:(prog.info? 113).map (·.size)=some 2:=by kernel_rfl
theorem fo113_0:zt prog 113 0 0:=by unfold zt;kernel_rfl
theorem fo113_1:zt prog 113 1 1:=by unfold zt;kernel_rfl
theorem zMu:zt prog 122 0 0:=by unfold zt;kernel_rfl
theorem zDa:zt prog 122 1 1:=by unfold zt;kernel_rfl
theorem zCd:Plain prog 120:=by unfold Plain;exact ⟨by kernel_rfl,by kernel_rfl⟩
theorem zBs:Plain prog 102:=by unfold Plain;exact ⟨by kernel_rfl,by kernel_rfl⟩
theorem zGC:Plain prog 198:=by unfold Plain;exact ⟨by kernel_rfl,by kernel_rfl⟩
theorem arr303:ArrOf prog 303 8 3 1:=by unfold ArrOf;exact ⟨by kernel_rfl,by kernel_rfl⟩
structure SyT where
 coef:List UInt8
 pows:List Nat
def tn:SyT:=⟨[],[]⟩
def zHX (w:World) (p:Option Addr) (ts:List SyT):Prop:=∀ j,j<ts.length→∃ b cs vp,p=some ⟨b,0,none⟩∧Blk w b 122 cs∧2*j+2≤cs.length∧(cs.drop (2*j)).take 2=[S (ts.getD j tn).coef,vp]∧zBx w vp (ts.getD j tn).pows
def zAX (w:World) (v:Value) (ts:List SyT):Prop:=∃ p c,v = .slice p ts.length c∧zHX w p ts
theorem zHX.ext {ts:List SyT} (h:zHX w p ts) (hx:Ext w w'):zHX w' p ts:=fun j hj=>by
 obtain ⟨b,cs,vp,h1,h2,h3,h4,h5⟩:=h j hj;exact ⟨b,cs,vp,h1,h2.ext hx,h3,h4,h5.ext hx⟩
theorem zAX.ext {ts:List SyT} (h:zAX w v ts) (hx:Ext w w'):zAX w' v ts:=by
 obtain ⟨p,c,h1,h2⟩:=h;exact ⟨p,c,h1,h2.ext hx⟩
def BoxR (w:World) (p:Option Addr) (box:List (Rat×Rat)):Prop:=∀ j,j<box.length→∃ b cs,p=some ⟨b,0,none⟩∧Blk w b 47 cs∧6*j+6≤cs.length∧zw w (.agg ((cs.drop (6*j)).take 6).toArray) (box.getD j (0,0)).1 (box.getD j (0,0)).2
def IsBox (w:World) (v:Value) (box:List (Rat×Rat)):Prop:=∃ p c,v = .slice p box.length c∧BoxR w p box
theorem BoxR.ext (h:BoxR w p box) (hx:Ext w w'):BoxR w' p box:=fun j hj=>by
 obtain ⟨b,cs,h1,h2,h3,h4⟩:=h j hj;exact ⟨b,cs,h1,h2.ext hx,h3,h4.ext hx⟩
theorem IsBox.ext (h:IsBox w v box) (hx:Ext w w'):IsBox w' v box:=by
 obtain ⟨p,c,h1,h2⟩:=h;exact ⟨p,c,h1,h2.ext hx⟩
theorem NumAt.updU (h:NumAt b q w) (hu:Upd c w w') (hc:Blk w c T cs) (hT:T≠164) (hT2:T≠37):NumAt b q w':=by
 obtain ⟨cs',h1,h2,h3⟩:=h;exact ⟨cs',h1.upd hu (fun e=>by subst e;exact hT2 (hc.inj h1).1),h2,h3.upd hu hc hT⟩
theorem Ents.pw {w:World}:∀ {es:List MapEntry} {m:List (List Nat×Rat)},Ents w es m→∀ k,k∈m.map (·.1)→Pw k
 | [],[],_=>fun k h=>absurd h List.not_mem_nil
 | _ :: _,p :: _,h=>fun k hk=>by
  rcases List.mem_cons.1 hk with h1 | h1
  · rw [h1];exact h.1.2.1
  · exact Ents.pw h.2 k h1
theorem IsMap.pw (h:IsMap w b m):∀ k,k∈m.map (·.1)→Pw k:=by
 obtain ⟨es,c,_,h2,_⟩:=h;exact h2.pw
theorem zBx.form2 {l:List Nat} (h:zBx w v l):∃ b c,v = .slice (some ⟨b,0,none⟩) l.length c:=by
 obtain ⟨b,T,cs,c,h1,_⟩:=h;exact ⟨_,_,h1⟩
def mulOk (s t:Rat×Rat):Bool:=rroom s.1 t.1&&(rroom s.1 t.2&&(rroom s.2 t.1&&(rroom s.2 t.2&&(rroom (s.1*t.1) (s.1*t.2)&&(rroom (s.2*t.1) (s.2*t.2)&&(rroom (sortS (s.2*t.1) (s.2*t.2)).1 (sortS (s.1*t.1) (s.1*t.2)).1&&rroom (sortS (s.2*t.1) (s.2*t.2)).2 (sortS (s.1*t.1) (s.1*t.2)).2))))))
def zER (s t:Rat×Rat):Option (Rat×Rat):=if mulOk s t=true then some (mulS s.1 s.2 t.1 t.2) else none
def addOk (s t:Rat×Rat):Bool:=rroom s.1 s.2&&(rroom t.1 t.2&&(rroom (sortS s.1 s.2).1 (sortS t.1 t.2).1&&rroom (sortS s.1 s.2).2 (sortS t.1 t.2).2))
def zEs (s t:Rat×Rat):Option (Rat×Rat):=if addOk s t=true then some (addS s.1 s.2 t.1 t.2) else none
def zEt (n:Nat) (s:Rat×Rat):Option (Rat×Rat):=if powOk n s.1 s.2=true then some (powS n s.1 s.2) else none
theorem zGo {t R:Rat×Rat} (hx:zw w u s.1 s.2) (hy:zw w v t.1 t.2) (h:zER s t=some R):Ret prog 221 #[u,v] w (fun r w'=>zw w' r R.1 R.2):=by
 unfold zER at h;split at h
 · rename_i hm;obtain rfl:=Option.some.inj h;unfold mulOk at hm;simp only [Bool.and_eq_true] at hm;obtain ⟨r1,r2,r3,r4,r5,r6,r7,r8⟩:=hm;exact SpanMul_ok hx hy r1 r2 r3 r4 r5 r6 r7 r8
 · cases h
theorem zJG {t R:Rat×Rat} (hx:zw w u s.1 s.2) (hy:zw w v t.1 t.2) (h:zEs s t=some R):Ret prog 282 #[u,v] w (fun r w'=>zw w' r R.1 R.2):=by
 unfold zEs at h;split at h
 · rename_i hm;obtain rfl:=Option.some.inj h;unfold addOk at hm;simp only [Bool.and_eq_true] at hm;obtain ⟨r1,r2,r3,r4⟩:=hm;exact zIc hx hy r1 r2 r3 r4
 · cases h
theorem zJH {R:Rat×Rat} (hx:zw w u s.1 s.2) (h:zEt n s=some R):Ret prog 283 #[u,.int .i64 (n:Int)] w (fun r w'=>zw w' r R.1 R.2):=by
 unfold zEt at h;split at h
 · rename_i hm;obtain rfl:=Option.some.inj h;exact SpanPow_ok hx hm
 · cases h
theorem span_zero:zw w (.agg #[.bool false,.slice none 0 0,.slice none 0 0,.bool false,.slice none 0 0,.slice none 0 0]) 0 0:=⟨_,_,_,_,rfl,IsNum.zero,IsNum.zero⟩
theorem zIP (h:Blk w b 47 [.bool false,.slice none 0 0,.slice none 0 0,.bool false,.slice none 0 0,.slice none 0 0]):zAj b 0 0 w:=⟨_,h,rfl,span_zero⟩
theorem zHJ {l:List UInt8} {a:Rat} (hl:l.length<1000000000) (h:zr l=(a,0)):Ret prog 65 #[S l] w (fun r w'=>∃ u,r = .tuple #[u,.int .i64 0]∧IsNum w' u a) :=
 (zJT hl).mono fun v w' _ ⟨u,h1,h2⟩=>⟨u,by rw [h1,h],by rw [h] at h2;exact h2⟩
theorem bitsLen_ok (h:n≤1000000):Ret prog 386 #[.int .u64 (n:Int)] w (fun _ _=>True) :=
 (Tryz.bits_Len (n:Int) w (by omega) (by omega)).mono fun e w' ⟨he,hw⟩=>⟨_,he,by rw [hw];exact Ext.refl w,trivial⟩
section laws
variable {K:Value→World→Prop} {d:Option Tmp}
theorem zHD (hx:σ x = .pointer (some ⟨b,o,none⟩)) (ho:o=6*j) (hB:Blk w b 47 cs) (hl:6*j+6≤cs.length) (hs:zw w (.agg ((cs.drop (6*j)).take 6).toArray) s.1 s.2) (hk:∀ v,zw w v s.1 s.2→K v w):Runs prog r ⟨d,.load 47 x,ty,pos,af,g⟩ σ w K:=by
 subst ho;exact zW aggr47' hx hB hl (hk _ hs)
theorem zCt {s:List UInt8} (hx:σ x = .pointer (some ⟨b,o,none⟩)) (ho:o=2*j) (hB:Blk w b 122 cs) (hl:2*j+2≤cs.length) (hs:(cs.drop (2*j)).take 2=[S s,vp]) (hk:K (.agg #[S s,vp]) w):Runs prog r ⟨d,.load 122 x,ty,pos,af,g⟩ σ w K:=by
 subst ho;exact zW zKz hx hB hl (by rw [hs];exact hk)
theorem zBx.form {l:List Nat} (h:zBx w v l):∃ p n c,v = .slice p n c:=by
 obtain ⟨b,T,cs,c,h1,_⟩:=h;exact ⟨_,_,_,h1⟩
theorem zDb {s:List UInt8} (hx:σ x = .pointer (some ⟨b,0,none⟩)) (hy:σ y = .agg #[S s,vp]) (hv:zBx w vp ps) (hB:Blk w b 122 [.string ⟨#[]⟩,.slice none 0 0])
 (hk:∀ w',Upd b w w'→Blk w' b 122 [S s,vp]→K undef w'):Runs prog r ⟨d,.store 122 x y,ty,pos,af,g⟩ σ w K:=by
 obtain ⟨p,n,c,rfl⟩:=hv.form;exact zZ size122 hx hB (by rw [hy];rfl) (Nat.le_of_ble_eq_true rfl) (by decide) (by rw [hy];rfl) fun w' hU hN=>hk w' hU (by rw [hy] at hN;exact hN)
theorem runs_kix {i:Operand} (hx:σ x = .pointer (some ⟨b,0,none⟩)) (hi:σ i = .int .i64 (j:Int)) (h1:j<8) (hk:K (.pointer (some ⟨b,j,none⟩)) w):Runs prog r ⟨d,.indexAddr 303 x i,ty,pos,af,g⟩ σ w K :=
 zq arr303 hx hi (by omega) (by omega) (by simpa using hk)
theorem pk_get {k:List Nat} (hj:j<k.length):(pk k).cells.toList[j]? = some (.int .i64 ((k.getD j 0:Nat):Int)):=by
 rw [zCF,List.getElem?_map,List.getElem?_eq_getElem hj,List.getD_eq_getElem?_getD,List.getElem?_eq_getElem hj];rfl
def padK (ps:List Nat):List Nat:=ps++List.replicate (8-ps.length) 0
theorem padK_pw (hl:ps.length≤8) (h:∀ x∈ps,x<4611686018427387904):Pw (padK ps):=by
 refine ⟨by unfold padK;rw [List.length_append,List.length_replicate];omega,fun x hx => ?_⟩;unfold padK at hx;rcases List.mem_append.1 hx with h1 | h1
 · exact h x h1
 · rw [List.eq_of_mem_replicate h1];decide
theorem runs_copyK (hx:σ x = .slice (some ⟨b,0,none⟩) 8 8) (hy:zBx w (σ y) ps) (hB:Blk w b 303 (pk [0,0,0,0,0,0,0,0]).cells.toList) (hl:ps.length≤8)
 (hk:∀ w',Upd b w w'→Blk w' b 303 (pk (padK ps)).cells.toList→K (.int .i64 (ps.length:Int)) w'):Runs prog r ⟨d,.call { callee := .builtin .copy,args := #[x,y],argTypes := #[120,120] },ty,pos,af,g⟩ σ w K:=by
 obtain ⟨b',T,cs,c,h1,h2,h3,h4,h5⟩:=hy;have hi:(prog.info? 3).map (fun i=>i.size)=some 1:=by kernel_rfl
 cases hie:prog.info? 3 with
 | none=>simp [hie] at hi
 | some ie =>
  simp [hie] at hi;have hnl:(ps.map fun (n:Nat)=>Value.int .i64 ((n:Nat):Int)).length=ps.length*1:=by simp
  have hnew:(cs.drop 0).take (ps.map fun (n:Nat)=>Value.int .i64 ((n:Nat):Int)).length=ps.map fun (n:Nat)=>Value.int .i64 ((n:Nat):Int):=by
   apply List.ext_getElem?;intro i;rw [List.drop_zero,List.length_map,List.getElem?_take,List.getElem?_map];split
   · rename_i hlt;rw [h3 i hlt,List.getElem?_eq_getElem hlt,List.getD_eq_getElem?_getD,List.getElem?_eq_getElem hlt];rfl
   · rename_i hge;rw [List.getElem?_eq_none (by omega)];rfl
  have f2:=zBe (P:=prog) (w:=w) (len:=ps.length) (cap:=c) (n:=1) (m:=ps.length) (p:=some ⟨b',0,none⟩) (T:=T) (cs:=ps.map fun (n:Nat)=>Value.int .i64 ((n:Nat):Int)) (.inr ⟨b',0,cs,rfl,h2,hnew⟩) hnl;have hok:(ps.map fun (n:Nat)=>Value.int .i64 ((n:Nat):Int)).all zBl=true:=by simp [zBl]
  have h8:(pk [0,0,0,0,0,0,0,0]).cells.toList.length=8:=by rw [zCF];rfl
  have f3:=zBJ (P:=prog) (b:=b) (o:=0) (ps.map fun (n:Nat)=>Value.int .i64 ((n:Nat):Int)) 0 w (pk [0,0,0,0,0,0,0,0]).cells.toList hB (by rw [List.length_map,h8];omega) hok;have hmin:min ps.length 8=ps.length:=by omega
  have hsp:zAy (pk [0,0,0,0,0,0,0,0]).cells.toList 0 (ps.map fun (n:Nat)=>Value.int .i64 ((n:Nat):Int))=(pk (padK ps)).cells.toList:=by
   have hd:((([0,0,0,0,0,0,0,0]:List Nat).map fun (n:Nat)=>Value.int .i64 ((n:Nat):Int))).drop ps.length=List.replicate (8-ps.length) (Value.int .i64 ((0:Nat):Int)):=by
    rw [show (([0,0,0,0,0,0,0,0]:List Nat).map fun (n:Nat)=>Value.int .i64 ((n:Nat):Int))=List.replicate 8 (Value.int .i64 ((0:Nat):Int)) from rfl,List.drop_replicate]
   rw [zEu _ _ _ (by rw [List.length_map,h8];omega),List.take_zero,List.nil_append,Nat.zero_add,List.length_map,zCF,zCF,hd];unfold padK;rw [List.map_append,List.map_replicate]
  refine zAb (fun _ e=>by cases e) (v := .int .i64 (ps.length:Int)) (w':=if (ps.map fun (n:Nat)=>Value.int .i64 ((n:Nat):Int))=[] then w else World.setBlk w b 303 (zAy (pk [0,0,0,0,0,0,0,0]).cells.toList 0 (ps.map fun (n:Nat)=>Value.int .i64 ((n:Nat):Int)))) ?_ ?_
  · simp [execOp,resolve,hx,h1,invoke,builtin,Builtin.copy_,run_underlying zJw,sizeOf,typeInfo,hie,hi,Builtin.lenOf,hmin,f2,zAk,goInt];have f3':=f3;simp only [Nat.add_zero] at f3';rw [f3'];simp
  · by_cases h0:(ps.map fun (n:Nat)=>Value.int .i64 ((n:Nat):Int))=[]
    · rw [if_pos h0];refine hk w (Upd.refl b w) ?_;rw [← hsp,h0];simpa [zAy] using hB
    · rw [if_neg h0];refine hk _ (zDt hB _) ?_;rw [← hsp];exact zCx _ _ hB.lt
end laws
variable {A:List Rat} {i k:Nat} {w0:World}
theorem und3z:prog.underlying 3=some (.int .i64):=by kernel_rfl
theorem zc3 (m i:Nat) (hi:i<m):((Builtin.zeroCells (#[.bool false,.slice none 0 0,.slice none 0 0]:Array Value) m).toList.drop (3*i)).take 3=[.bool false,.slice none 0 0,.slice none 0 0]:=by
 apply List.ext_getElem?;intro j;rw [List.getElem?_take,List.getElem?_drop];simp only [Builtin.zeroCells,Array.toList_map,Array.toList_range,List.size_toArray,List.length_cons,List.length_nil,List.getElem?_map];by_cases hj:j<3
 · rw [if_pos hj,List.getElem?_range (by omega)];have e:(3*i+j)%(0+1+1+1)=j:=by omega
   rw [Option.map_some,e]
   match j,hj with
   | 0,_=>rfl
   | 1,_=>rfl
   | 2,_=>rfl
 · rw [if_neg hj,List.getElem?_eq_none (by simp;omega)]
theorem zJz (m:Nat):(Builtin.zeroCells (#[.bool false,.slice none 0 0,.slice none 0 0]:Array Value) m).toList.length=m*3:=by simp [Builtin.zeroCells]
theorem zc3_ok (m:Nat):(Builtin.zeroCells (#[.bool false,.slice none 0 0,.slice none 0 0]:Array Value) m).toList.all zBl=true:=by
 rw [List.all_eq_true];intro x hx;obtain ⟨k,hk⟩:=List.getElem?_of_mem hx;have hl:=(List.getElem?_eq_some_iff.1 hk).1;rw [zJz] at hl;have h:=congrArg (fun l:List Value=>l[k%3]?) (zc3 m (k/3) (by omega));simp only [List.getElem?_take,List.getElem?_drop] at h;rw [if_pos (by omega),show 3*(k/3)+k%3=k from by omega,hk] at h;have h3:k%3<3:=by omega
 generalize k%3=j at h h3
 match j,h3,h with
 | 0,_,h=>cases h;rfl
 | 1,_,h=>cases h;rfl
 | 2,_,h=>cases h;rfl
def AppV (v:Value) (A:List Rat) (sz:Nat) (w w':World):Prop:=Ext w w'∨∃ b c cs,v = .slice (some ⟨b,0,none⟩) A.length c∧sz≤b∧Blk w b 37 cs∧Upd b w w'
theorem AppV.ext {sz:Nat} (h:AppV v A sz w w') (hs:w0.heap.size≤sz) (hE:Ext w0 w):Ext w0 w':=by
 rcases h with h | ⟨b,c,cs,h0,h1,h2,h3⟩
 · exact hE.trans h
 · exact hE.upd h3 (by omega)
theorem AppV.num {sz:Nat} (h:AppV v A sz w w') (hne:∀ b k,v = .slice (some ⟨b,0,none⟩) A.length k→b≠c) (hN:NumAt c q w):NumAt c q w':=by
 rcases h with h | ⟨b,k,cs,h0,h1,h2,h3⟩
 · exact hN.ext h
 · exact hN.upd h3 h2 (Ne.symm (hne _ _ h0))
theorem AppV.blk {sz T:Nat} (h:AppV v A sz w w') (hB:Blk w b T cs) (hT:T≠37):Blk w' b T cs:=by
 rcases h with h | ⟨b',k,cs',h0,h1,h2,h3⟩
 · exact hB.ext h
 · exact hB.upd h3 (fun e=>by subst e;exact hT (hB.inj h2).1)
theorem zMy {m:Nat} (h:i<A.length):(A++List.replicate m 0).getD i 0=A.getD i 0:=by
 simp [List.getElem?_append_left h]
theorem zMz {m:Nat} (h:¬ i<A.length):(A++List.replicate m 0).getD i 0=0:=by
 rw [List.getD_eq_getElem?_getD,List.getElem?_append_right (by omega)];by_cases h2:i-A.length<m
 · rw [List.getElem?_replicate,if_pos h2];rfl
 · rw [List.getElem?_replicate,if_neg h2];rfl
section laws
variable {K:Value→World→Prop} {d:Option Tmp}
theorem runs_append_zeros {sz m:Nat} (hx:σ x=v) (hA:AccP sz w v A) (hy:σ y = .int .i64 (m:Int)) (hl:A.length+m≤4096) (hsz:sz≤w.heap.size)
 (hk:∀ u w',AppV v A sz w w'→AccP sz w' u (A++List.replicate m 0)→K u w'):Runs prog r ⟨d,.call { callee := .builtin .append,args := #[x,y],argTypes := #[25,3] },ty,pos,af,g⟩ σ w K:=by
 obtain ⟨p,c,h1,h2,h3⟩:=hA;have hx1:=hx.trans h1;have hi:=zDT;cases hie:prog.info? 37 with
 | none=>simp [hie] at hi
 | some ie =>
  simp [hie] at hi;obtain ⟨e1,e2,e3⟩:=hi;have hw:IntKind.i64.wrap (m:Int)=(m:Int):=zAG (by omega) (by omega);have hn0:¬ ((m:Int)<0):=by omega
  have hbg:¬ (281474976710656<(m:Int)*(ie.bytes:Int)):=by rw [e3];omega
  have h03:m≠0→¬ m*3=0:=fun h=>by omega
  have hbc:(Value.agg #[.bool false,.slice none 0 0,.slice none 0 0]).cells = #[.bool false,.slice none 0 0,.slice none 0 0]:=rfl;by_cases hc:A.length+m≤c
  · by_cases h0:m=0
    · subst h0;refine zl (fun _ e=>by cases e) (v := .slice p A.length c) ?_ (hk _ _ (.inl (Ext.refl w)) ?_)
      · cases p with
        | none=>simp [execOp,resolve,hx1,hy,invoke,builtin,Builtin.append_,run_underlying zAV,run_underlying und3z,sizeOf,typeInfo,hie,e2,e3,asInt,asIntOf,h2,show IntKind.i64.wrap 0=0 from rfl]
        | some a=>simp [execOp,resolve,hx1,hy,invoke,builtin,Builtin.append_,run_underlying zAV,run_underlying und3z,sizeOf,typeInfo,hie,e2,e3,asInt,asIntOf,h2,storeCells,show IntKind.i64.wrap 0=0 from rfl]
      · rw [List.replicate_zero,List.append_nil];exact ⟨p,c,rfl,h2,h3⟩
    · rcases h3 with ⟨g1,g2,g3⟩ | ⟨b,cs,g1,g2,g3,g4,g5⟩
      · omega
      · subst g1;have hnl:=zJz m;have f3:=zBJ (P:=prog) (b:=b) (o:=A.length*3) (Builtin.zeroCells (#[.bool false,.slice none 0 0,.slice none 0 0]:Array Value) m).toList 0 w cs g3 (by rw [hnl];omega) (zc3_ok m);have hne:(Builtin.zeroCells (#[.bool false,.slice none 0 0,.slice none 0 0]:Array Value) m).toList≠[]:=fun e=>by rw [e] at hnl;simp at hnl;omega
        have hm3:¬ (m=0∨ie.size=0):=by omega
        refine zAb (fun _ e=>by cases e) (v := .slice (some ⟨b,0,none⟩) (A.length+m) c) (w':=World.setBlk w b 37 (zAy cs (A.length*3) (Builtin.zeroCells (#[.bool false,.slice none 0 0,.slice none 0 0]:Array Value) m).toList)) ?_ ?_
        · simp [execOp,resolve,hx1,hy,invoke,builtin,Builtin.append_,run_underlying zAV,run_underlying und3z,sizeOf,typeInfo,hie,e1,e2,e3,asInt,asIntOf,hw,hn0,hc,h0,h03 h0,zeroValue,hbc,zAk,show ¬ (281474976710656<(m:Int)*56) from by omega];have f3':=f3;simp only [Nat.add_zero] at f3';rw [f3',if_neg hne]
          try simp
        · refine hk _ _ (.inr ⟨b,c,cs,h1,g2,g3,zDt g3 _⟩) ⟨_,c,by simp,by simp;omega,.inr ⟨b,_,rfl,g2,zCx _ _ g3.lt,by rw [zAh];exact g4,fun i hi => ?_⟩⟩;rw [List.length_append,List.length_replicate] at hi;have hs:=zEu (Builtin.zeroCells (#[.bool false,.slice none 0 0,.slice none 0 0]:Array Value) m).toList cs (A.length*3) (by rw [hnl];omega);rw [hs];by_cases hiA:i<A.length
          · rw [zMy hiA,List.drop_append_of_le_length (by simp;omega),List.take_append_of_le_length (by simp;omega),List.drop_take,List.take_take,Nat.min_eq_left (by omega)];exact (g5 i hiA).upd (zDt g3 _) g3 (by decide)
          · rw [zMz hiA,List.drop_append,List.drop_of_length_le (l:=cs.take (A.length*3)) (by simp;omega),List.nil_append,List.length_take,Nat.min_eq_left (by omega),
             show 3*i-A.length*3=3*(i-A.length) from by omega,List.drop_append_of_le_length (by rw [hnl];omega),List.take_append_of_le_length (by rw [List.length_drop,hnl];omega),zc3 m _ (by omega)]
            exact IsNum.zero
  · have hold:∃ old,Cells w p 37 old∧old.length=A.length*3∧∀ i,i<A.length→IsNum w (.agg ((old.drop (3*i)).take 3).toArray) (A.getD i 0):=by
     rcases h3 with ⟨g1,g2,g3⟩ | ⟨b,cs,g1,g2,g3,g4,g5⟩
     · subst g1;exact ⟨[],.inl rfl,rfl,fun i hi=>by simp at hi⟩
     · refine ⟨cs.take (A.length*3),.inr ⟨b,0,cs,g1,g3,by simp⟩,by simp;omega,fun i hi => ?_⟩;have:=g5 i hi;rwa [show ((cs.take (A.length*3)).drop (3*i)).take 3=(cs.drop (3*i)).take 3 from by
        rw [List.drop_take,List.take_take,Nat.min_eq_left (by omega)]]
    obtain ⟨old,o1,o2,o3⟩:=hold;have h0:¬ m=0:=by omega
    have hnl:=zJz m;have hcap:=zAa (A.length+m) c;have hb':¬ (281474976710656<Builtin.nextslicecap (A.length+m) c*56):=by omega
    have hneed:¬ ((IntKind.i64.max:Int)<((A.length+m:Nat):Int)):=by simp [IntKind.max,IntKind.bits];omega
    have hneed2:¬ ((9223372036854775807:Int)<(A.length:Int)+(m:Int)):=by omega
    obtain ⟨cc,hcc,hcl⟩:∃ k,(Question.appendCap (A.length+m) c 37).cut (w.tape w.drawn (.appendCap (A.length+m) c 37))=k∧A.length+m≤k:=⟨_,rfl,by simp only [Question.cut];omega⟩;have f1:=zBe (P:=prog) (w:=w.drew) (len:=A.length) (cap:=c) (n:=3) (m:=A.length) (p:=p) (T:=37) (cs:=old) (o1.ext (Ext.drawn _)) o2
    refine zAb (fun _ e=>by cases e) (v := .slice (some ⟨w.heap.size,0,none⟩) (A.length+m) cc)
     (w':=w.drew.alloc (.cells (old.toArray++(Builtin.zeroCells (#[.bool false,.slice none 0 0,.slice none 0 0]:Array Value) m++Builtin.zeroCells (#[.bool false,.slice none 0 0,.slice none 0 0]:Array Value) (cc-(A.length+m)))) 37)) ?_ ?_
    · simp [execOp,resolve,hx1,hy,invoke,builtin,Builtin.append_,run_underlying zAV,run_underlying und3z,sizeOf,typeInfo,hie,e1,e2,e3,asInt,asIntOf,hw,hn0,hc,h0,h03 h0,hb',hneed,hneed2,zeroValue,hbc,Question.forced,hcc,f1,newRow,show ¬ (281474976710656<(m:Int)*56) from by omega]
    · have hE:Ext w (w.drew.alloc (.cells (old.toArray++(Builtin.zeroCells (#[.bool false,.slice none 0 0,.slice none 0 0]:Array Value) m++Builtin.zeroCells (#[.bool false,.slice none 0 0,.slice none 0 0]:Array Value) (cc-(A.length+m)))) 37)):=(Ext.drawn (w:=w) _).trans (Ext.push (w:=w.drew) _)
      have hB:Blk (w.drew.alloc (.cells (old.toArray++(Builtin.zeroCells (#[.bool false,.slice none 0 0,.slice none 0 0]:Array Value) m++Builtin.zeroCells (#[.bool false,.slice none 0 0,.slice none 0 0]:Array Value) (cc-(A.length+m)))) 37)) w.heap.size 37
       (old++(Builtin.zeroCells (#[.bool false,.slice none 0 0,.slice none 0 0]:Array Value) m).toList++(Builtin.zeroCells (#[.bool false,.slice none 0 0,.slice none 0 0]:Array Value) (cc-(A.length+m))).toList):=by
       show (w.drew.heap.push _)[w.heap.size]? = _;rw [show w.heap.size=w.drew.heap.size from rfl,Array.getElem?_push_size];simp
      refine hk _ _ (.inl hE) ⟨_,cc,by simp,by simpa using hcl,.inr ⟨_,_,rfl,hsz,hB,by simp only [List.length_append,o2,zJz];omega,fun i hi => ?_⟩⟩;rw [List.length_append,List.length_replicate] at hi;by_cases hiA:i<A.length
      · rw [zMy hiA,List.append_assoc,List.drop_append_of_le_length (by omega),List.take_append_of_le_length (by rw [List.length_drop];omega)];exact (o3 i hiA).ext hE
      · rw [zMz hiA,List.append_assoc,List.drop_append,List.drop_of_length_le (by omega),List.nil_append,o2,
         show 3*i-A.length*3=3*(i-A.length) from by omega,List.drop_append_of_le_length (by rw [hnl];omega),List.take_append_of_le_length (by rw [List.length_drop,hnl];omega),zc3 m _ (by omega)]
        exact IsNum.zero
theorem AccP.block {sz:Nat} (h:AccP sz w v A) (h0:A≠[]):∃ b c,v = .slice (some ⟨b,0,none⟩) A.length c∧sz≤b:=by
 obtain ⟨p,c,h1,h2,h3⟩:=h;rcases h3 with ⟨g1,_⟩ | ⟨b,cs,g1,g2,_⟩
 · exact absurd g1 h0
 · exact ⟨b,c,by rw [h1,g1],g2⟩
theorem runs_accload {sz:Nat} (hx:σ x = .pointer (some ⟨b,o,none⟩)) (ho:o=3*k) (hA:AccP sz w (.slice (some ⟨b,0,none⟩) A.length c) A) (hk:k<A.length) (hc:∀ v,IsNum w v (A.getD k 0)→K v w):Runs prog r ⟨d,.load 37 x,ty,pos,af,g⟩ σ w K:=by
 subst ho;obtain ⟨p,c',h1,h2,h3⟩:=hA;cases h1;rcases h3 with ⟨g1,_⟩ | ⟨b',cs,g1,g2,g3,g4,g5⟩
 · rw [g1] at hk;simp at hk
 · cases g1;exact zAK hx g3 (by omega) (g5 k hk) hc
theorem runs_accstore {sz:Nat} (hx:σ x = .pointer (some ⟨b,o,none⟩)) (ho:o=3*k) (hy:IsNum w (σ y) q) (hA:AccP sz w (.slice (some ⟨b,0,none⟩) A.length c) A) (hk:k<A.length)
 (hc:∀ v w',Upd b w w'→AccP sz w' (.slice (some ⟨b,0,none⟩) A.length c) (A.set k q)→K v w'):Runs prog r ⟨d,.store 37 x y,ty,pos,af,g⟩ σ w K:=by
 subst ho;obtain ⟨p,c',h1,h2,h3⟩:=hA;cases h1;rcases h3 with ⟨g1,_⟩ | ⟨b',cs,g1,g2,hB,g4,hN⟩
 · rw [g1] at hk;simp at hk
 · cases g1;have hy0:=hy;obtain ⟨n,dd,he,hn,hd⟩:=hy;obtain ⟨p1,ds1,c1,rfl,-⟩:=hn;obtain ⟨p2,ds2,c2,rfl,-⟩:=hd;refine zZ zGN hx hB (by rw [he];rfl) (by omega) (by decide) (by rw [he];rfl) fun w' hU hS=>hc _ w' hU ?_;rw [he] at hS hy0;refine ⟨_,c,by rw [List.length_set],by rw [List.length_set];exact h2,.inr ⟨b,_,rfl,g2,hS,by rw [zAh];exact g4,fun i hi => ?_⟩⟩;rw [List.length_set] at hi;show IsNum w' (.agg (((zAy cs (3*k) [_,_,_]).drop (3*i)).take 3).toArray) _;rw [zBY (by omega)];by_cases hik:i=k
   · subst hik;rw [if_pos rfl,show (A.set i q).getD i 0=q from by simp [hi]];exact hy0.upd hU hB (by decide)
   · rw [if_neg hik,show (A.set k q).getD i 0=A.getD i 0 from by simp [List.getElem?_set_ne (Ne.symm hik)]];exact (hN i hi).upd hU hB (by decide)
end laws
end Go.Proofs.YtjiendlfobjanaaGreatDoor
namespace Go.Proofs.YtjiendlfobjanaaGreatDoor
open Go Go.RowKit Go.Proofs Tryz
set_option maxRecDepth 10000
set_option maxHeartbeats 2000000
attribute [local irreducible] Runs WPE CallK Ret
variable {hi lo:List UInt8} {w:World}
theorem SpanOf_ok {a b:Rat} (hl1:lo.length<1000000000) (hl2:hi.length<1000000000) (hp1:zr lo=(a,0)) (hp2:zr hi=(b,0)) (hrr:rroom a b=true) (hle:¬ 0<rcmpI a b):Ret prog 144 #[.agg #[S lo,S hi]] w (fun r w'=>∃ u,r = .tuple #[u,.int .i64 0]∧zw w' u a b):=by
 refine J0 37 func144 rfl (rj fun K => ?_);refine K1 (zk fun b1 w1 hb hE hB1 hs => ?_);replace E0:=E0.trans hE;clear hE hs hb;replace hB1:Blk _ b1 113 [S lo,S hi]:=hB1;refine K1 (zK zero47' fun b2 w3 hb hE hB2 hs => ?_);have hgb2:w.heap.size≤b2:=by rw [hb];exact E0.size
 replace E0:=E0.trans hE;replace hB1:=hB1.ext hE;clear hE hs hb;refine ag (rm [1,2] K ?_);refine rj fun K=>K1 (zB fo113_0 rfl (K1 (zD zCm rfl hB1 rfl (K1 (j2 E0 hB1.ext hB2.ext hb65 (zHJ hl1 hp1) fun v10 w2 E0 hB1 hB2 hr => ?_)))));obtain ⟨u1,rfl,N1⟩:=hr;refine mv (xt rfl (xt rfl ?_));refine K1 (zK zAP fun c4 w3 hb hE hBc hs=>K1 (zI rfl (N1.ext hE) (Cell3.of hBc rfl) fun _ w4 hU hC1 => ?_));replace hE:=hE.upd hU (by rw [hb];exact Nat.le_refl _);have hgc4:w.heap.size≤c4:=by rw [hb];exact E0.size
 replace E0:=E0.trans hE;replace hB1:=hB1.ext hE;replace hB2:=hB2.ext hE;clear hE hb hs hU hBc N1;refine ag (rm [1,2,4,5] K ?_);refine zA (rJ fun K=>K9 false rfl (by decide) (rm [1,2,4,5,14] K ?_));refine wcf rfl (sk (rj fun K=>K1 (zB fo113_1 rfl (K1 (zD zCm rfl hB1 rfl (K1 (j3 E0 hB1.ext hB2.ext hC1.ext hb65 (zHJ hl2 hp2) fun v20 w2 E0 hB1 hB2 hC1 hr => ?_)))))));obtain ⟨u2,rfl,N2⟩:=hr;refine mv (xt rfl (xt rfl ?_));refine K1 (zK zAP fun c6 w3 hb hE hBc hs=>K1 (zI rfl (N2.ext hE) (Cell3.of hBc rfl) fun _ w4 hU hC2 => ?_));replace hE:=hE.upd hU (by rw [hb];exact Nat.le_refl _);have hgc6:w.heap.size≤c6:=by rw [hb];exact E0.size
 replace E0:=E0.trans hE;replace hB1:=hB1.ext hE;replace hB2:=hB2.ext hE;replace hC1:=hC1.ext hE;clear hE hb hs hU hBc N2;refine ag (rm [2,4,5,6] K ?_);refine zA (zG (rJ fun K=>K9 false rfl (by decide) (ag (rm [2,4,5,6,23] K ?_))));refine wcf rfl (rj fun K=>K1 (zL rfl hC1 fun v29 N29=>K1 (zL rfl hC2 fun v30 N30=>K1 (zC hb73 (CallK.of_ret (zCn N29 N30 hrr) fun vi w2 hE hr => ?_) rfl))));replace E0:=E0.trans hE;replace hB2:=hB2.ext hE;replace hC1:=hC1.ext hE;replace hC2:=hC2.ext hE;clear hE N29 N30;subst hr;refine K9 false rfl (decide_eq_false hle) (ag (rm [2,4,6,28] K ?_));refine wcf rfl (zz (zT (zN (rj fun K=>K1 (zL rfl hC1 fun v34 N34=>K1 (zL rfl hC2 fun v35 N35=>K1 (zBN N34 N35 fun v36 N36=>K1 (zAC rfl N36 hB2 rfl fun w9 cs9 hU hN hl9 hS9 => ?_))))))));replace E0:=E0.upd hU hgb2;clear hU hB2;refine ag (rm [2,3] K ?_);exact zE (zQ ⟨rfl,_,zu rfl rfl rfl rfl aggr47' hN hl9,E0,_,rfl,hS9⟩)
variable {b c n s0:Nat} {m:List (List Nat×Rat)} {p:Option Addr} {u v:Value}
theorem ins1_ok {f:Value} (hn:n≤1):Ret prog 388 #[v,.int .i64 0,.int .i64 (n:Int),f] w (fun _ _=>True):=by
 have E0:Ext w w:=Ext.refl w;refine J0 53 func388 rfl (rJ fun K=>K8 rfl (ag (rm [0,1,2,3,8] K ?_)));refine zG (zo (X:=Unit) (fun _ ρ w'=>Keep ρ [(2,.int .i64 (n:Int)),(8,.int .i64 1)]∧Ext w w') (fun _=>0) () ⟨(kp rfl),E0⟩ ?_);clear E0;rintro _ ρ1 w1 ⟨hk,E0⟩;refine wpe_k _ hk ?_;clear hk ρ1;refine zA (rJ fun K=>mv (K9 false rfl (decide_eq_false (by omega)) (rm [2,8,14] K ?_)));exact wcf rfl (zi (zAE (zv (zP (zGw ⟨rfl,_,zBd rfl,E0,trivial⟩)))))
theorem pdq1_ok {f:Value} (hn:n≤1):Ret prog 385 #[v,.int .i64 0,.int .i64 (n:Int),u,f] w (fun _ _=>True):=by
 have E0:Ext w w:=Ext.refl w;refine J0 148 func385 rfl (rj fun K=>ag (rm [0,1,2,3,4,10] K ?_));refine rj fun K=>ag (rm [0,1,2,3,4,10,11] K ?_);refine zG (zo (X:=Unit) (fun _ ρ w'=>Keep ρ [(0,v),(1,.int .i64 0),(2,.int .i64 (n:Int)),(4,f)]∧Ext w w') (fun _=>0) () ⟨(kp rfl),E0⟩ ?_);clear E0;rintro _ ρ1 w1 ⟨hk,E0⟩;refine wpe_k _ hk ?_;clear hk ρ1;refine zG (rJ fun K=>mv (K1 (zH (v := .int .i64 (n:Int)) rfl rfl (congrArg (fun z=>some (Value.int .i64 z)) ((zAG (by omega) (by omega)).trans (by omega))) (ag (rm [0,1,2,4,12] K ?_)))));refine zA (rJ fun K=>K9 true rfl (decide_eq_true (by omega)) (rm [0,1,2,4,12,25] K ?_));refine wct rfl (rJ fun K=>mv (mv (mv (K1 (j0 E0 hb388 (ins1_ok hn) fun vi w2 E0 hr=>rm [1,2] K ?_)))));exact zE (zY (zh (zAr (zh (zQ ⟨rfl,_,zBd rfl,E0,trivial⟩)))))
theorem under3u:prog.underlying 3=some (.int .i64):=by kernel_rfl
theorem SortFunc1_ok {f:Value} (hn:n≤1):Ret prog 379 #[.slice p n c,f] w (fun _ _=>True):=by
 refine J0 14 func379 rfl (rJ fun K=>K1 (zJ zJs rfl (ag (rm [0,1,4] K ?_))));exact rI fun K=>mv (mv (K1 (zGl n under3u zMY rfl (by omega) (K1 (j0 E0 hb386 (bitsLen_ok (by omega)) fun vi w2 E0 hr=>mv (K1 (j0 E0 hb385 (pdq1_ok hn) fun vi w2 E0 hr=>rl K (zGw ⟨rfl,_,zBd rfl,E0,trivial⟩))))))))
theorem zIG (x:List (List Nat)):(rowsK x).length=x.length:=List.length_map _
theorem SortedFunc1_ok {f:Value} (hkp:∀ k,k∈m.map (·.1)→Pw k) (hml:m.length≤1) (hv:KeysF b v w) (hm:IsMap w b m):Ret prog 368 #[v,f] w (fun r w'=>zFl m w.heap.size r w'):=by
 have E0:Ext w w:=Ext.refl w;refine J0 12 func368 rfl (rj fun K=>ag (rm [0,1] K ?_));refine rj fun K=>mv ?_;have hsz:=E0.size;refine K1 (j0 E0 hb378 (Collect_ok hkp (by omega) hv hm) fun v7 w2 E0 hr => ?_);obtain ⟨x,hfin,hsub,hR⟩:=hr;have hxl:=hsub.len;obtain ⟨p7,c7,rfl⟩:=hR.form;refine ag (rm [1,5] K ?_);refine rJ fun K=>mv ?_;refine K1 (zC hb379 (CallK.of_ret (SortFunc1_ok (by rw [zIG];omega)) fun vi w2 hE hr => ?_) rfl);replace E0:=E0.trans hE;replace hR:=hR.ext hE;clear hE hr;refine rm [5] K ?_;refine rJ fun K=>ag (rm [4] K ?_);exact zE (en rfl E0 ⟨x,hfin,hsub,hR.sz hsz⟩)
theorem order1m_ok (hkp:∀ k,k∈m.map (·.1)→Pw k) (hml:m.length≤1) (hm:IsMap w b m):Ret prog 352 #[.map (some b)] w (fun r w'=>zFl m w.heap.size r w'):=by
 have E0:Ext w w:=Ext.refl w;refine J0 6 func352 rfl (rj fun K=>ag (rm [0] K ?_));refine rJ fun K=>K1 (j1 E0 hm.ext hb369 (Keys_ok) fun v4 w2 E0 hm hK => ?_);have hsz:=E0.size;refine K1 (zC hb368 (CallK.of_ret (SortedFunc1_ok hkp hml hK hm) fun v5 w2 hE hR => ?_) rfl);replace E0:=E0.trans hE;replace hm:=hm.ext hE;clear hE hK;refine ag (rm [2] K ?_);exact zE (en rfl E0 (hR.sz hsz))
theorem keysIn_one (hml:m.length≤1) (h:zFl m s0 v w):RowB 303 8 s0 [] w v (rowsK (m.map (·.1))):=by
 obtain ⟨x,h1,h2,h3⟩:=h;have e:x=m.map (·.1):=by
  have hl:=h2.len
  match m,hml with
  | [],_=>exact List.eq_nil_of_length_eq_zero (by simpa using hl)
  | [a],_ =>
   match x,hl with
   | [],_=>exact absurd (h1 a.1 (by simp)) List.not_mem_nil
   | [k],_ =>
    have:=h2.1 k (by simp);simp at this;simp [this]
   | _ :: _ :: _,hl=>simp at hl
 rw [← e];exact h3
variable {E i j o:Nat} {af:Array Edge} {box:List (Rat×Rat)} {cs:List Value} {g:Option (Nat×Bool)} {pos:String} {r:Option Nat} {rows:List (List Value)} {s:Rat×Rat} {ty:TypeId} {vb:Value} {w':World} {x:Operand} {α:Type} {σ:Operand→Value}
def zEf (k:List Nat):List (Rat×Rat)→Nat→Rat×Rat→Option (Rat×Rat)
 | [],_,s=>some s
 | a :: box,i,s=>(zEt (k.getD i 0) a).bind fun p=>(zER s p).bind fun s'=>zEf k box (i+1) s'
theorem zHk {l:List α} (h:i<l.length) (d:α):l.drop i=l.getD i d :: l.drop (i+1):=by
 rw [List.drop_eq_getElem_cons h,List.getD_eq_getElem?_getD,List.getElem?_eq_getElem h];rfl
theorem aloneL_step {k:List Nat} {R:Rat×Rat} (hi:i<box.length) (h:zEf k (box.drop i) i s=some R) :
 ∃ p s',zEt (k.getD i 0) (box.getD i (0,0))=some p∧zER s p=some s'∧zEf k (box.drop (i+1)) (i+1) s'=some R:=by
 rw [zHk hi (0,0),zEf] at h;cases h1:zEt (k.getD i 0) (box.getD i (0,0)) with
 | none=>rw [h1] at h;cases h
 | some p =>
  rw [h1,Option.bind_some] at h;cases h2:zER s p with
  | none=>rw [h2] at h;cases h
  | some s'=>rw [h2,Option.bind_some] at h;exact ⟨p,s',rfl,h2,h⟩
theorem aloneL_end {k:List Nat} {R:Rat×Rat} (hi:¬ i<box.length) (h:zEf k (box.drop i) i s=some R):s=R:=by
 rw [List.drop_eq_nil_of_le (by omega),zEf] at h;exact Option.some.inj h
def zFP (m:List (List Nat×Rat)) (box:List (Rat×Rat)):List (List Nat)→Rat×Rat→Option (Rat×Rat)
 | [],s=>some s
 | k :: l,s=>(zEf k box 0 (mget m k,mget m k)).bind fun t=>(zEs s t).bind fun s'=>zFP m box l s'
theorem reachL_step {x:List (List Nat)} {R:Rat×Rat} (hi:i<x.length) (h:zFP m box (x.drop i) s=some R) :
 ∃ t s',zEf (x.getD i []) box 0 (mget m (x.getD i []),mget m (x.getD i []))=some t∧zEs s t=some s'∧zFP m box (x.drop (i+1)) s'=some R:=by
 rw [zHk hi [],zFP] at h;cases h1:zEf (x.getD i []) box 0 (mget m (x.getD i []),mget m (x.getD i [])) with
 | none=>rw [h1] at h;cases h
 | some p =>
  rw [h1,Option.bind_some] at h;cases h2:zEs s p with
  | none=>rw [h2] at h;cases h
  | some s'=>rw [h2,Option.bind_some] at h;exact ⟨p,s',rfl,h2,h⟩
theorem reachL_end {x:List (List Nat)} {R:Rat×Rat} (hi:¬ i<x.length) (h:zFP m box (x.drop i) s=some R):s=R:=by
 rw [List.drop_eq_nil_of_le (by omega),zFP] at h;exact Option.some.inj h
section laws
variable {K:Value→World→Prop} {d:Option Tmp}
theorem runs_keyload {k:List Nat} (hx:σ x = .pointer (some ⟨b,o,none⟩)) (ho:o=8*j) (hB:Blk w b 303 cs) (hl:8*j+8≤cs.length) (hs:(cs.drop (8*j)).take 8=(pk k).cells.toList) (hk:K (pk k) w):Runs prog r ⟨d,.load 303 x,ty,pos,af,g⟩ σ w K:=by
 subst ho;refine zW zMl hx hB hl ?_;rw [hs,zCF];exact hk
theorem rowsK_at {x:List (List Nat)} (h:i<x.length):(rowsK x).getD i []=(pk (x.getD i [])).cells.toList:=by
 unfold rowsK;rw [List.getD_eq_getElem?_getD,List.getElem?_map,List.getD_eq_getElem?_getD,List.getElem?_eq_getElem h];rfl
end laws
theorem alone_ok {k:List Nat} {x:Rat} {R:Rat×Rat} (hkw:Pw k) (hx:IsNum w v x) (hbox:IsBox w vb box) (hbl:box.length≤8) (h:zEf k box 0 (x,x)=some R):Ret prog 353 #[pk k,v,vb] w (fun r w'=>zw w' r R.1 R.2):=by
 obtain ⟨p,c,rfl,hbx⟩:=hbox;have E0:Ext w w:=Ext.refl w;refine J0 28 func353 rfl (rj fun K => ?_);refine K1 (zk fun b1 w1 hb hE hB1 hs => ?_);replace E0:=E0.trans hE;replace hx:=hx.ext hE;clear hE hs hb;refine K1 (zk fun b2 w2 hb hE hB2 hs => ?_);have hC:=zNF hB2 (hx.ext hE);replace E0:=E0.trans hE;replace hB1:=hB1.ext hE;clear hE hs hb hx hB2;refine K1 (zK zero47' fun b3 w3 hb hE hB3 hs => ?_);have hgb3:w.heap.size≤b3:=by rw [hb];exact E0.size
 replace E0:=E0.trans hE;replace hB1:=hB1.ext hE;replace hC:=hC.ext hE;clear hE hs hb;refine rm [2,3,4,6] K ?_;refine rj fun K=>K1 (zL rfl hC fun v10 N10=>K1 (zC hb222 (CallK.of_ret (zJU N10) fun v11 w2 hE N11 => ?_) rfl));replace E0:=E0.trans hE;replace hB1:=hB1.ext hE;replace hB3:=hB3.ext hE;clear hE N10 hC;refine K1 (zK zero47' fun b4 w3 hb hE hBc hs => ?_);have ne14:b1≠b4:=by have:=hB1.lt;omega
 have ne34:b3≠b4:=by have:=hB3.lt;omega
 refine K1 (zAC rfl (N11.ext hE) hBc rfl fun w4 cs4 hU hN4 hl4 hS4 => ?_);have hS:zAj b4 x x w4:=⟨cs4,hN4,hl4,hS4⟩;replace hE:=hE.upd hU (by rw [hb];exact Nat.le_refl _);have hgb4:w.heap.size≤b4:=by rw [hb];exact E0.size
 replace E0:=E0.trans hE;replace hB1:=hB1.ext hE;replace hB3:=hB3.ext hE;clear hE hb hs hU hBc hN4 hl4 hS4 N11;refine rm [2,3,6,7] K ?_;refine zA (rJ fun K=>K1 (zJ zFK rfl (mv (rm [3,6,7,12,13,14] K ?_))));refine zG (zo (X:=Nat) (fun i ρ w'=>∃ s:Rat×Rat,Keep ρ [(3,.pointer (some ⟨b1,0,none⟩)),(6,.pointer (some ⟨b3,0,none⟩)),(7,.pointer (some ⟨b4,0,none⟩)),(12,.slice p box.length c),(13,.int .i64 (box.length:Int)),(14,.int .i64 ((i:Nat):Int))]∧i≤box.length∧Ext w w'∧Blk w' b1 303 (pk k).cells.toList∧Blk w' b3 47 [.bool false,.slice none 0 0,.slice none 0 0,.bool false,.slice none 0 0,.slice none 0 0]∧zAj b4 s.1 s.2 w'∧zEf k (box.drop i) i s=some R) (fun i=>box.length-i) 0 ⟨(x,x),(kp rfl),Nat.zero_le _,E0,hB1,hB3,hS,h⟩ ?_);clear E0 hB1 hB3 hS h;rintro i ρ1 w1 ⟨s,hk,hil,E0,hB1,hB3,hS,h⟩;refine wpe_k _ hk ?_;clear hk ρ1;refine rj fun K=>K8 rfl (rm [3,6,7,12,13,14,15] K ?_);refine zA ?_;refine K0 rfl ?_ ?_<;>intro hc
 · have hlt:i<box.length:=t_lt hc;clear hc;obtain ⟨pw,s2,hpp,hps,hrest⟩:=aloneL_step hlt h;clear h;refine sk (zA (zG (zA ?_)));obtain ⟨bb,cs,rfl,hBb,hlb,hSb⟩:=(hbx.ext E0) i hlt;refine rI fun K=>K1 (zBO zFK rfl rfl hlt (K1 (zHD rfl rfl hBb hlb hSb fun v18 N18 => ?_)));clear hSb hlb hBb;refine K1 (zK zero47' fun b9 w3 hb hE hBc hs=>ag (K1 (zAC rfl (N18.ext hE) hBc rfl fun w4 cs4 hU hN4 hl4 hS4 => ?_)));have hA:zAj b9 (box.getD i (0,0)).1 (box.getD i (0,0)).2 w4:=⟨cs4,hN4,hl4,hS4⟩;replace hE:=hE.upd hU (by rw [hb];exact Nat.le_refl _);have hgb9:w.heap.size≤b9:=by rw [hb];exact E0.size
   replace E0:=E0.trans hE;replace hB1:=hB1.ext hE;replace hB3:=hB3.ext hE;replace hS:=hS.ext hE;clear hE hb hs hU hBc hN4 hl4 hS4 N18;refine rs [3,6,7,8,9,12,13,14] K ?_;refine zAN 7 [([(7,none)],none),([(9,none)],none),([(8,none)],none),([(3,none),(21,some 0)],none),([(22,some 0)],none),([(20,some 3),(23,some 0)],none),([(19,some 5),(24,some 0)],none)] mixed (by kernel_rfl) (by kernel_rfl) (by kernel_rfl) (by kernel_rfl) (by kernel_rfl) fun K hK=>dcp (fun v w'=>zw w' v s.1 s.2) (fun _ _ _ _ hx h=>h.ext hx.toExt) (fun σ wx hE hk=>zAL hk.1 (hS.ext hE) fun v h=>⟨Ext.refl _,h⟩) (dcp (fun v w'=>zw w' v (box.getD i (0,0)).1 (box.getD i (0,0)).2) (fun _ _ _ _ hx h=>h.ext hx.toExt) (fun σ wx hE hk=>zAL hk.1 (hA.ext hE) fun v h=>⟨Ext.refl _,h⟩) (dvp (fun σ wx hE hk=>zF ⟨Ext.refl _,hk.1⟩) (dcp (fun v _=>v = .pointer (some ⟨b1,i,none⟩)) (fun _ _ _ _ _ h=>h) (fun σ wx hE hk=>runs_kix hk.1 hk.2.1 (by omega) ⟨Ext.refl _,rfl⟩) ?_)));refine dcp (fun v _=>v = .int .i64 ((k.getD i 0:Nat):Int)) (fun _ _ _ _ _ h=>h) (fun σ wx hE hk=>zD zBR hk.1 (hB1.ext hE) (pk_get (by rw [hkw.1];omega)) ⟨Ext.refl _,rfl⟩) ?_
   refine dcp (fun v w'=>zw w' v pw.1 pw.2) (fun _ _ _ _ hx h=>h.ext hx.toExt) (fun σ wx hE hk=>zC hb283 (CallK.eq2 rfl hk.2.1 (CallK.of_ret (zJH (s:=(box.getD i (0,0))) hk.1 hpp) fun v w2 hX hr=>⟨hX,hr⟩)) rfl) (dcp (fun v w'=>zw w' v s2.1 s2.2) (fun _ _ _ _ hx h=>h.ext hx.toExt) (fun σ wx hE hk=>zC hb221 (CallK.of_ret (zGo hk.1 hk.2.1 hps) fun v w2 hX hr=>⟨hX,hr⟩) rfl) (zAR (hK _ fun wq hE => ?_)));rintro v19 N19 v20 N20 _ rfl v22 N22 v23 N23 v24 N24 v25 N25;refine zU ?_;replace E0:=E0.trans hE;replace hB1:=hB1.ext hE;replace hB3:=hB3.ext hE;replace hS:=hS.ext hE;clear hE;refine K1 (zAm rfl N25 hS fun w8 hU hS' => ?_);replace E0:=E0.upd hU hgb4;replace hB1:=hB1.upd hU ne14;replace hB3:=hB3.upd hU ne34;clear hU hS hA N25 N24 N20 N19;have hS:=hS';clear hS';refine zAi (zT (zN (K5 [3,6,7,12,13,14] ?_)));exact K6 fun K=>K8 rfl (mv (rl K (zV (⟨rfl,i+1,⟨s2,⟨rfl,rfl,rfl,rfl,rfl,rfl,rfl,rfl,rfl,rfl,rfl,congrArg (Value.int .i64) (zAD (by omega)),trivial⟩,by omega,E0,hB1,hB3,hS,hrest⟩,by omega⟩))))
 · have hge:=f_lt hc;clear hc;obtain rfl:=aloneL_end (by omega) h;clear h;refine zi (zAE (zv (zP (zN (rj fun K=>K1 (zAL rfl hS fun v27 N27=>K1 (zAC rfl N27 hB3 rfl fun w9 cs9 hU hN hl9 hS9 => ?_)))))));replace E0:=E0.upd hU hgb3;clear hU hB3;refine rm [3,6,7,12,13,14] K ?_;exact zE (zQ ⟨rfl,_,zx rfl rfl rfl aggr47' hN hl9,E0,hS9⟩)
theorem RowR.updT {T:Nat} (h:RowR E n w p rows) (hu:Upd b w w') (hb:Blk w b T cs) (hT:T≠E):RowR E n w' p rows:=by
 rcases h with h | ⟨b',cs',h1,h2,h3,h4⟩
 · exact .inl h
 · exact .inr ⟨b',cs',h1,h2.upd hu (fun e=>by subst e;exact hT (hb.inj h2).1),h3,h4⟩
theorem sumReach_ok {R:Rat×Rat} (hkp:∀ k,k∈m.map (·.1)→Pw k) (hml:m.length≤1) (hm:IsMap w b m) (hbox:IsBox w vb box) (hbl:box.length≤8) (h:zFP m box (m.map (·.1)) (0,0)=some R):Ret prog 324 #[.map (some b),vb] w (fun r w'=>zw w' r R.1 R.2):=by
 have E0:Ext w w:=Ext.refl w;refine J0 25 func324 rfl (rj fun K => ?_);refine K1 (zK zero47' fun b1 w3 hb hE hB1 hs => ?_);have hgb1:w.heap.size≤b1:=by rw [hb];exact E0.size
 replace E0:=E0.trans hE;clear hE hs hb;refine rm [0,1,4] K ?_;refine rj fun K => ?_;refine K1 (zK zero47' fun b2 w3 hb hE hB2 hs => ?_);have ne12:b1≠b2:=by have:=hB1.lt;omega
 have hgb2:w.heap.size≤b2:=by rw [hb];exact E0.size
 replace E0:=E0.trans hE;replace hB1:=hB1.ext hE;clear hE hs hb;refine rm [0,1,4,5] K ?_;refine zA (zA ?_);have hS:=zIP hB2;clear hB2;obtain ⟨x,hxe⟩:∃ x,x=m.map (·.1):=⟨_,rfl⟩
 have hkx:∀ i,i<x.length→Pw (x.getD i []):=fun i hi=>hkp _ (by rw [hxe,← hxe,List.getD_eq_getElem?_getD,List.getElem?_eq_getElem hi];exact hxe ▸ List.getElem_mem hi);have hxl:x.length≤1:=by rw [hxe,List.length_map];exact hml
 rw [← hxe] at h;refine rI fun K=>K1 (j2 E0 hB1.ext hS.ext hb352 (order1m_ok hkp hml (hm.ext E0)) fun v9 w2 E0 hB1 hS hK => ?_);have hR:=keysIn_one hml hK;rw [← hxe] at hR;obtain ⟨p9,c9,rfl,hRd⟩:=hR.rd;clear hR hK;refine K1 (zJ zJs rfl (mv (rs [0,1,4,5,9,10,11] K ?_)));refine zG (zo (X:=Nat) (fun i ρ w'=>∃ s:Rat×Rat,Keep ρ [(0,.map (some b)),(1,vb),(4,.pointer (some ⟨b1,0,none⟩)),(5,.pointer (some ⟨b2,0,none⟩)),(9,.slice p9 (rowsK x).length c9),(10,.int .i64 ((rowsK x).length:Int)),(11,.int .i64 ((i:Nat):Int))]∧i≤x.length∧Ext w w'∧RowR 303 8 w' p9 (rowsK x)∧Blk w' b1 47 [.bool false,.slice none 0 0,.slice none 0 0,.bool false,.slice none 0 0,.slice none 0 0]∧zAj b2 s.1 s.2 w'∧zFP m box (x.drop i) s=some R) (fun i=>x.length-i) 0 ⟨(0,0),(kp rfl),Nat.zero_le _,E0,hRd,hB1,hS,h⟩ ?_);clear E0 hRd hB1 hS h;rintro i ρ1 w1 ⟨s,hk,hil,E0,hRd,hB1,hS,h⟩;refine wpe_k _ hk ?_;clear hk ρ1;refine rj fun K=>K8 rfl (rm [0,1,4,5,9,10,11,12] K ?_);refine zA ?_;refine K0 rfl ?_ ?_<;>intro hc
 · have hlt0:i<(rowsK x).length:=t_lt hc;have hlt:i<x.length:=by rwa [zIG] at hlt0
   clear hc;obtain ⟨tt,s2,hal,hsa,hrest⟩:=reachL_step hlt h;clear h;have hkw:=hkx i hlt;refine sk (zA (zG (zA ?_)));obtain ⟨bb,cs,hpe,hBb,hlb,hcb⟩:=hRd.at hlt0;subst hpe;rw [rowsK_at hlt] at hcb;refine K6 fun K=>K1 (zBO zJs rfl rfl hlt0 (K1 (runs_keyload rfl rfl hBb hlb hcb ?_)));clear hcb hlb hBb;refine K1 (zK zKA fun b7 w3 hb hE hBc hs=>K1 (zFe rfl rfl hkw hBc ⟨rfl,by simp⟩ fun w4 hU hB7 => ?_));replace hE:=hE.upd hU (by rw [hb];exact Nat.le_refl _);replace E0:=E0.trans hE;replace hRd:=hRd.ext hE;replace hB1:=hB1.ext hE;replace hS:=hS.ext hE;clear hE hb hs hU hBc;refine rs [0,1,4,5,7,9,10,11] K ?_
   refine zAN 8 [([(5,none)],none),([(7,none)],none),([(0,none)],none),([(7,none)],none),([(17,some 1),(18,some 0)],none),([(1,none)],none),([(16,some 4),(19,some 1),(20,some 0)],none),([(15,some 6),(21,some 0)],none)] mixed (by kernel_rfl) (by kernel_rfl) (by kernel_rfl) (by kernel_rfl) (by kernel_rfl) fun K hK=>dcp (fun v w'=>zw w' v s.1 s.2) (fun _ _ _ _ hx h=>h.ext hx.toExt) (fun σ wx hE hk=>zAL hk.1 (hS.ext hE) fun v h=>⟨Ext.refl _,h⟩) (dcp (fun v _=>v=pk (x.getD i [])) (fun _ _ _ _ _ h=>h) (fun σ wx hE hk=>zCO hk.1 (hB7.ext hE) hkw ⟨Ext.refl _,rfl⟩) (dvp (fun σ wx hE hk=>zF ⟨Ext.refl _,hk.1⟩) (dcp (fun v _=>v=pk (x.getD i [])) (fun _ _ _ _ _ h=>h) (fun σ wx hE hk=>zCO hk.1 (hB7.ext hE) hkw ⟨Ext.refl _,rfl⟩) (dcp (fun v w'=>IsNum w' v (mget m (x.getD i []))) (fun _ _ _ _ hx h=>h.ext hx.toExt) (fun σ wx hE hk=>zIK hk.1 hk.2.1 hkw ((hm.ext E0).ext hE) fun v h=>⟨Ext.refl _,h⟩) (dvp (fun σ wx hE hk=>zF ⟨Ext.refl _,hk.1⟩) (dcp (fun v w'=>zw w' v tt.1 tt.2) (fun _ _ _ _ hx h=>h.ext hx.toExt) (fun σ wx hE hk=>zC hb353 (CallK.eq3 hk.1 rfl hk.2.2.1 (CallK.of_ret (alone_ok hkw hk.2.1 ((hbox.ext E0).ext hE) hbl hal) fun v w2 hX hr=>⟨hX,hr⟩)) rfl) (dcp (fun v w'=>zw w' v s2.1 s2.2) (fun _ _ _ _ hx h=>h.ext hx.toExt) (fun σ wx hE hk=>zC hb282 (CallK.of_ret (zJG hk.1 hk.2.1 hsa) fun v w2 hX hr=>⟨hX,hr⟩) rfl) (zAR (hK _ fun wq hE => ?_)))))))))
   rintro v15 N15 v16 N16 _ rfl v18 N18 v19 N19 _ rfl v21 N21 v22 N22;refine zU ?_;replace E0:=E0.trans hE;replace hRd:=hRd.ext hE;replace hB1:=hB1.ext hE;replace hS:=hS.ext hE;clear hE;refine K1 (zAm rfl N22 hS fun w8 hU hS' => ?_);replace E0:=E0.upd hU hgb2;replace hB1:=hB1.upd hU ne12;replace hRd:=hRd.updT hU hS.choose_spec.1 (by decide);clear hU hS hB7 N22 N21 N19 N15;have hS:=hS';clear hS';refine zAi (zT (zN (K5 [0,1,4,5,9,10,11] ?_)));exact K6 fun K=>K8 rfl (mv (rl K (zV (⟨rfl,i+1,⟨s2,⟨rfl,rfl,rfl,rfl,rfl,rfl,rfl,rfl,rfl,rfl,rfl,rfl,rfl,congrArg (Value.int .i64) (zAD (by omega)),trivial⟩,by omega,E0,hRd,hB1,hS,hrest⟩,by omega⟩))))
 · have hge:=f_lt hc;clear hc;rw [zIG] at hge;obtain rfl:=reachL_end (by omega) h;clear h;refine zi (zAE (zv (zP (zN (rj fun K=>K1 (zAL rfl hS fun v24 N24=>K1 (zAC rfl N24 hB1 rfl fun w9 cs9 hU hN hl9 hS9 => ?_)))))));replace E0:=E0.upd hU hgb1;clear hU hB1;refine rm [0,4,5,9,10,11] K ?_;exact zE (zQ ⟨rfl,_,zx rfl rfl rfl aggr47' hN hl9,E0,hS9⟩)
variable {M:List (List Nat×Rat)} {vars:Nat} {ts:List SyT}
def zMS (vars:Nat) (m:List (List Nat×Rat)) (t:SyT):Bool:=decide ((zr t.coef).2=0)&&(decide (t.coef.length<1000000000)&&(decide (t.pows.length=vars)&&(t.pows.all (fun n=>decide (n≤40))&&rroom (mget m (padK t.pows)) (zr t.coef).1)))
theorem termOk_of {t:SyT} (h:zMS vars m t=true):zr t.coef=((zr t.coef).1,0)∧t.coef.length<1000000000∧t.pows.length=vars∧(∀ n∈t.pows,n≤40)∧rroom (mget m (padK t.pows)) (zr t.coef).1=true:=by
 unfold zMS at h;simp only [Bool.and_eq_true,decide_eq_true_eq,List.all_eq_true] at h;exact ⟨Prod.ext rfl h.1,h.2.1,h.2.2.1,h.2.2.2.1,h.2.2.2.2⟩
def readL (vars:Nat):List SyT→List (List Nat×Rat)→Option (List (List Nat×Rat))
 | [],m=>some m
 | t :: l,m=>if zMS vars m t=true then readL vars l (madd m (padK t.pows) (zr t.coef).1) else none
theorem readL_step (hi:i<ts.length) (h:readL vars (ts.drop i) m=some M) :
 zMS vars m (ts.getD i tn)=true∧readL vars (ts.drop (i+1)) (madd m (padK (ts.getD i tn).pows) (zr (ts.getD i tn).coef).1)=some M:=by
 rw [zHk hi tn,readL] at h;split at h
 · exact ⟨by assumption,h⟩
 · cases h
theorem readL_end (hi:¬ i<ts.length) (h:readL vars (ts.drop i) m=some M):m=M:=by
 rw [List.drop_eq_nil_of_le (by omega),readL] at h;exact Option.some.inj h
theorem read1_ok (hn:n≤40):Ret prog 296 #[.int .i64 (n:Int)] w (fun r _=>r = .bool false):=by
 refine J0 9 func296 rfl (rj fun K=>ag (rm [0] K ?_));refine rJ fun K=>K9 false rfl (decide_eq_false (by omega)) (mv (K7 (K2 (zH (v := .bool false) rfl rfl (congrArg (fun z=>some (Value.bool z)) (decide_eq_false (by omega))) (pc0 rfl (ag (rm [2] K ?_)))))));exact zE (en rfl E0 rfl)
theorem getD_mem {l:List Nat} (h:i<l.length):l.getD i 0∈l:=by
 rw [List.getD_eq_getElem?_getD,List.getElem?_eq_getElem h];exact List.getElem_mem h
theorem ixInts_ok {l:List Nat} (hl:zBx w v l) (h40:∀ n∈l,n≤40):Ret prog 330 #[v,.func (.func 296) #[] #[]] w (fun r _=>r = .int .i64 (-1)):=by
 obtain ⟨b,T,cs,c,rfl,hB,h3,h4,h5⟩:=hl;have E0:Ext w w:=Ext.refl w;refine J0 19 func330 rfl (rj fun K=>ag (rm [0,1] K ?_));refine zA (rJ fun K=>K1 (zJ sl120 rfl (mv (rm [0,1,7,8] K ?_))));refine zG (zo (X:=Nat) (fun i ρ w'=>Keep ρ [(0,.slice (some ⟨b,0,none⟩) l.length c),(1,.func (.func 296) #[] #[]),(7,.int .i64 (l.length:Int)),(8,.int .i64 ((i:Nat):Int))]∧i≤l.length∧Ext w w') (fun i=>l.length-i) 0 ⟨(kp rfl),Nat.zero_le _,E0⟩ ?_);clear E0;rintro i ρ1 w1 ⟨hk,hil,E0⟩;refine wpe_k _ hk ?_;clear hk ρ1;refine rj fun K=>K8 rfl (rm [0,1,7,8,9] K ?_);refine zA ?_;refine K0 rfl ?_ ?_<;>intro hc
 · have hlt:i<l.length:=t_lt hc;clear hc;refine sk (zA (zG (rJ fun K=>ag (rm [0,1,5,7,8] K ?_))));refine rJ fun K=>mv (mv (K1 (zDV sl120 rfl rfl hlt ?_)));refine K1 (zD zBR rfl (hB.ext E0) (by rw [Nat.zero_add,Nat.mul_one];exact h3 i hlt) ?_);refine K1 (zBU rfl hb296 (CallK.of_ret (read1_ok (h40 _ (getD_mem hlt))) fun vi w2 hE hr => ?_));replace E0:=E0.trans hE;clear hE;subst hr;refine rm [0,1,5,7,8,16] K ?_;exact wcf rfl (zz (zT (zN (K6 fun K=>K8 rfl (mv (rl K (zV (⟨rfl,i+1,⟨⟨rfl,rfl,rfl,rfl,rfl,rfl,rfl,congrArg (Value.int .i64) (zAD (by omega)),trivial⟩,by omega,E0⟩,by omega⟩))))))))
 · clear hc;refine zi (zAE (zv (zP (zN (rj fun K=>ag (rm [0,1,4,7,8] K ?_))))));exact zE (en rfl E0 rfl)
theorem hasInts_ok {l:List Nat} (hl:zBx w v l) (h40:∀ n∈l,n≤40):Ret prog 295 #[v,.func (.func 296) #[] #[]] w (fun r _=>r = .bool false):=by
 refine J0 9 func295 rfl (rj fun K=>ag (rm [0,1] K ?_));refine rJ fun K=>mv (K1 (j0 E0 hb330 (ixInts_ok hl h40) fun vi w2 E0 hr => ?_));subst hr;refine K9 false rfl (by decide) (ag (rm [4] K ?_));exact zE (en rfl E0 rfl)
theorem zJL (hT:zAX w v ts) (hv:vars≤8) (hl:ts.length≤2000) (h:readL vars ts []=some M):Ret prog 238 #[v,.int .i64 (vars:Int)] w (fun r w'=>∃ b,r = .tuple #[.map (some b),.int .i64 0]∧IsMap w' b M):=by
 obtain ⟨p,c,rfl,hT⟩:=hT;have E0:Ext w w:=Ext.refl w;refine J0 60 func238 rfl (rj fun K=>ag (ag (rm [0,1] K ?_)));refine zA (zG (rJ fun K=>K9 false rfl (decide_eq_false (by omega)) (mv (K7 (K2 (zH (v := .bool false) rfl rfl (congrArg (fun z=>some (Value.bool z)) (decide_eq_false (by omega))) (pc0 rfl (ag (rm [0,1,12] K ?_)))))))));refine wcf rfl (rJ fun K=>K1 (zJ zCu rfl (K9 false rfl (decide_eq_false (by omega)) (ag (rm [0,1,19] K ?_)))));refine wcf rfl (zz (zT (zN (rj fun K=>K1 (runs_makeMap fun b w1 hb hE hN hs => ?_)))));have hm:=IsMap.new hN;have hgb:w.heap.size≤b:=by rw [hb];exact E0.size
 replace E0:=E0.trans hE;clear hE hN hs hb;refine ag (rm [0,1,6] K ?_);refine zA (rJ fun K=>K1 (zJ zCu rfl (mv (rm [1,6,24,25,26] K ?_))));refine zG (zo (X:=Nat) (fun i ρ w'=>∃ m,Keep ρ [(1,.int .i64 (vars:Int)),(6,.map (some b)),(24,.slice p ts.length c),(25,.int .i64 (ts.length:Int)),(26,.int .i64 ((i:Nat):Int))]∧i≤ts.length∧Ext w w'∧IsMap w' b m∧readL vars (ts.drop i) m=some M) (fun i=>ts.length-i) 0 ⟨[],(kp rfl),Nat.zero_le _,E0,hm,h⟩ ?_);clear E0 hm h;rintro i ρ1 w1 ⟨m,hk,hil,E0,hm,h⟩;refine wpe_k _ hk ?_;clear hk ρ1;refine rj fun K=>K8 rfl (rm [1,6,24,25,26,27] K ?_);refine zA ?_;refine K0 rfl ?_ ?_<;>intro hc
 · have hlt:i<ts.length:=t_lt hc;clear hc;obtain ⟨hto,hrest⟩:=readL_step hlt h;clear h;obtain ⟨hp,hcl,hpl,h40,hrr⟩:=termOk_of hto;clear hto;refine sk (zA (zG (zA ?_)));obtain ⟨bb,cs,vp,rfl,hBb,hlb,hcb,hIb⟩:=(hT.ext E0) i hlt;obtain ⟨bi,ci,rfl⟩:=hIb.form2;refine K6 fun K=>K1 (zBO zCu rfl rfl hlt (K1 (zCt rfl rfl hBb hlb hcb ?_)));clear hcb hlb hBb;refine K1 (zK zLL fun b8 w3 hb hE hBc hs=>K1 (zDb rfl rfl (hIb.ext hE) hBc fun w4 hU hB8 => ?_));replace hE:=hE.upd hU (by rw [hb];exact Nat.le_refl _);replace E0:=E0.trans hE;replace hm:=hm.ext hE;replace hIb:=hIb.ext hE;clear hE hb hs hU hBc;refine rs [1,6,8,24,25,26] K ?_;refine rj fun K=>K1 (zB zMu rfl (K1 (zD zCm rfl hB8 rfl (K1 (j3 E0 hm.ext hIb.ext hB8.ext hb65 (zHJ hcl hp) fun v33 w2 E0 hm hIb hB8 hr => ?_)))));obtain ⟨u1,rfl,N9⟩:=hr;refine mv (xt rfl (xt rfl ?_));refine K1 (zK zAP fun c9 w3 hb hE hBc hs=>K1 (zI rfl (N9.ext hE) (Cell3.of hBc rfl) fun _ w4 hU hC9 => ?_));replace hE:=hE.upd hU (by rw [hb];exact Nat.le_refl _);have hgc9:w.heap.size≤c9:=by rw [hb];exact E0.size
   replace E0:=E0.trans hE;replace hm:=hm.ext hE;replace hIb:=hIb.ext hE;replace hB8:=hB8.ext hE;clear hE hb hs hU hBc N9;refine ag (rm [1,6,8,9,10,24,25,26] K ?_);refine zA (zG (rJ fun K=>K9 false rfl (by decide) (ag (rm [1,6,8,9,10,24,25,26,36] K ?_))));refine wcf rfl (rj fun K=>K1 (zB zDa rfl (K1 (zD zCd rfl hB8 rfl (K1 (zJ sl120 rfl (mv ?_)))))));refine K9 false rfl (by rw [hpl];simp) ?_;refine ag (rm [1,6,8,9,24,25,26,40] K ?_);refine wcf rfl (rj fun K=>K1 (zB zDa rfl (K1 (zD zCd rfl hB8 rfl (K1 (j4 E0 hm.ext hIb.ext hB8.ext hC9.ext hb295 (hasInts_ok hIb h40) fun vi w2 E0 hm hIb hB8 hC9 hr => ?_))))));subst hr;refine ag (rm [1,6,8,9,24,25,26,46] K ?_);refine wcf rfl (zz (zT (zN (rj fun K => ?_))));refine K1 (zK zKA fun b11 w3 hb hE hB11 hs => ?_);have hg11:w.heap.size≤b11:=by rw [hb];exact E0.size
   replace E0:=E0.trans hE;replace hm:=hm.ext hE;replace hIb:=hIb.ext hE;replace hB8:=hB8.ext hE;replace hC9:=hC9.ext hE;clear hE hb hs;refine rm [1,6,8,9,11,24,25,26] K ?_;refine zA (zAN 3 [([(11,none)],none),([(8,none)],none),([(51,some 0)],none)] mixed (by kernel_rfl) (by kernel_rfl) (by kernel_rfl) (by kernel_rfl) (by kernel_rfl) fun K hK=>dcp (fun v _=>v = .slice (some ⟨b11,0,none⟩) 8 8) (fun _ _ _ _ _ h=>h) (fun σ wx hE hk=>runs_arr303 hk.1 ⟨Ext.refl _,rfl⟩) (dvp (fun σ wx hE hk=>zB zDa hk.1 ⟨Ext.refl _,rfl⟩) (dcp (fun v _=>v = .slice (some ⟨bi,0,none⟩) (ts.getD i tn).pows.length ci) (fun _ _ _ _ _ h=>h) (fun σ wx hE hk=>zD zCd hk.1 (hB8.ext hE) rfl ⟨Ext.refl _,rfl⟩) (zAR (hK _ fun wq hE => ?_)))));rintro v50 N50 _ rfl v52 N52;refine zU ?_;replace E0:=E0.trans hE;replace hm:=hm.ext hE;replace hIb:=hIb.ext hE;replace hB8:=hB8.ext hE;replace hC9:=hC9.ext hE;replace hB11:=hB11.ext hE;clear hE;subst N50;subst N52;refine K1 (runs_copyK rfl hIb hB11 (by omega) fun w9 hU hN => ?_);replace E0:=E0.upd hU hg11;replace hm:=hm.updB hU hB11 (by decide);replace hC9:=hC9.updU hU hB11 (by decide) (by decide);clear hU hB11 hB8;have hB11:=hN;clear hN;refine zAi (zN (K5 [1,6,9,11,24,25,26] ?_));refine K6 fun K=>mv ?_;have hkw:Pw (padK (ts.getD i tn).pows):=padK_pw (by omega) fun x hx=>by have:=h40 x hx;omega
   refine K1 (zCO rfl hB11 hkw (K1 (zL rfl hC9 fun v56 N56=>K1 (zC hb297 (CallK.mono (sumAdd_ok E0 hgb hm hkw N56 hrr) fun _ w9 ⟨h1,_,h3⟩ => ?_) rfl))));clear E0 hm hIb hC9 hB11 N56;have E0:=h1;have hm:=h3;clear h1 h3;refine rl K (zT (zN (K5 [1,6,24,25,26] ?_)));exact K6 fun K=>K8 rfl (mv (rl K (zV (⟨rfl,i+1,⟨_,⟨rfl,rfl,rfl,rfl,rfl,rfl,rfl,rfl,rfl,congrArg (Value.int .i64) (zAD (by omega)),trivial⟩,by omega,E0,hm,hrest⟩,by omega⟩))))
 · have hge:=f_lt hc;clear hc;obtain rfl:=readL_end (by omega) h;clear h;refine zi (zAE (zv (zP (zN (rJ fun K=>ag (ag (rm [1,4,5,6,24,25,26] K ?_)))))));exact zE (zQ ⟨rfl,_,zn rfl rfl rfl,E0,b,rfl,hm⟩)
theorem zIU (hT:zAX w v ts) (hv:vars≤8) (hl:ts.length≤2000) (h:readL vars ts []=some M):Ret prog 216 #[v,.int .i64 (vars:Int)] w (fun r _=>r = .int .i64 0):=by
 refine J0 14 func216 rfl (rj fun K=>ag (rm [0,1] K ?_));refine rJ fun K=>mv (K1 (j0 E0 hb238 (zJL hT hv hl h) fun v10 w2 E0 hr => ?_));obtain ⟨b,rfl,hm⟩:=hr;refine mv (xt rfl (xt rfl (ag (ag (rm [6] K ?_)))));refine rJ fun K=>ag (rm [4] K ?_);exact zE (en rfl E0 rfl)
def zIx (ts:List SyT) (box:List (Rat×Rat)):Option (Rat×Rat):=if ts.length≤2000∧box.length≤8 then (readL box.length ts []).bind fun m=>if m.length≤1 then zFP m box (m.map (·.1)) (0,0) else none else none
theorem reachO_of {R:Rat×Rat} (h:zIx ts box=some R):ts.length≤2000∧box.length≤8∧∃ m,readL box.length ts []=some m∧m.length≤1∧zFP m box (m.map (·.1)) (0,0)=some R:=by
 unfold zIx at h;split at h
 · rename_i h0;cases h1:readL box.length ts [] with
   | none=>rw [h1] at h;cases h
   | some m =>
    rw [h1,Option.bind_some] at h;split at h
    · exact ⟨h0.1,h0.2,m,rfl,by assumption,h⟩
    · cases h
 · cases h
theorem Reach_ok {R:Rat×Rat} (hT:zAX w v ts) (hbox:IsBox w vb box) (h:zIx ts box=some R):Ret prog 281 #[v,vb] w (fun r w'=>∃ u,r = .tuple #[u,.int .i64 0]∧zw w' u R.1 R.2):=by
 obtain ⟨hl,hbl,m,h,hml,h2⟩:=reachO_of h;obtain ⟨p,c,rfl,hbx⟩:=hbox;refine J0 22 func281 rfl (rj fun K => ?_);refine K1 (zK zero47' fun b4 w3 hb hE hB4 hs => ?_);have hgb4:w.heap.size≤b4:=by rw [hb];exact E0.size
 replace E0:=E0.trans hE;clear hE hs hb;refine ag (rm [0,1,4] K ?_);refine rJ fun K=>mv (K1 (zJ zFK rfl (K1 (j1 E0 hB4.ext hb238 (zJL (hT.ext E0) hbl hl h) fun v12 w2 E0 hB4 hr => ?_))));obtain ⟨b,rfl,hm⟩:=hr;refine mv (xt rfl (xt rfl (ag (ag (rm [1,4,6,7] K ?_)))));refine zA (rJ fun K=>K9 false rfl (by decide) (rm [1,4,6,7,16] K ?_));refine wcf rfl (sk (rJ fun K=>mv (K1 (zC hb324 (CallK.of_ret (sumReach_ok hm.pw hml hm ⟨p,c,rfl,hbx.ext E0⟩ hbl h2) fun v21 w2 hE N21 => ?_) rfl))));replace E0:=E0.trans hE;replace hB4:=hB4.ext hE;clear hE hm;refine K1 (zAC rfl N21 hB4 rfl fun w9 cs9 hU hN hl9 hS9 => ?_);replace E0:=E0.upd hU hgb4;clear hU hB4;refine ag (rm [4,5] K ?_);exact zE (zQ ⟨rfl,_,zu rfl rfl rfl rfl aggr47' hN hl9,E0,_,rfl,hS9⟩)
variable {num:List SyT} {v2 vd vn vp vr:Value} {y:Operand}
theorem zHL:Plain prog 103:=by unfold Plain;exact ⟨by kernel_rfl,by kernel_rfl⟩
theorem plain41:Plain prog 41:=by unfold Plain;exact ⟨by kernel_rfl,by kernel_rfl⟩
theorem zJW:Aggr prog 105 4:=by unfold Aggr;exact ⟨by kernel_rfl,by kernel_rfl⟩
theorem zJf:zt prog 105 0 0:=by unfold zt;kernel_rfl
theorem zJg:zt prog 105 1 1:=by unfold zt;kernel_rfl
theorem zHq:zt prog 105 2 2:=by unfold zt;kernel_rfl
theorem fo105_3:zt prog 105 3 3:=by unfold zt;kernel_rfl
theorem zMx:zt prog 200 0 0:=by unfold zt;kernel_rfl
theorem zHr:zt prog 200 1 4:=by unfold zt;kernel_rfl
theorem zGe:zt prog 200 2 5:=by unfold zt;kernel_rfl
theorem zLV:ArrOf prog 284 2 102 1:=by unfold ArrOf;exact ⟨by kernel_rfl,by kernel_rfl⟩
theorem size198:(prog.info? 198).map (·.size)=some 1:=by kernel_rfl
theorem size139:(prog.info? 139).map (·.size)=some 1:=by kernel_rfl
theorem info47b:(prog.info? 47).map (fun i=>(i.zero,i.size))=some (some (.agg #[.bool false,.slice none 0 0,.slice none 0 0,.bool false,.slice none 0 0,.slice none 0 0]),6):=by kernel_rfl
def zBq (w:World) (v:Value) (lo hi:List UInt8):Prop:=∃ b c cs,v = .slice (some ⟨b,0,none⟩) 1 c∧Blk w b 113 cs∧2≤cs.length∧(cs.drop 0).take 2=[S lo,S hi]
theorem zBq.ext (h:zBq w v lo hi) (hx:Ext w w'):zBq w' v lo hi:=by
 obtain ⟨b,c,cs,h1,h2,h3⟩:=h;exact ⟨b,c,cs,h1,h2.ext hx,h3⟩
def zDy (w:World) (b:Nat) (num den:List SyT) (box:List (Rat×Rat)) (l:List Band):Prop :=
 ∃ vn vd vb vm vx vl,Blk w b 200 [vn,vd,vb,vm,vx,vl]∧zAX w vn num∧zAX w vd den∧IsBox w vx box∧zCl w vl l
theorem zDy.ext {den:List SyT} {l:List Band} (h:zDy w b num den box l) (hx:Ext w w'):zDy w' b num den box l:=by
 obtain ⟨vn,vd,vb,vm,vx,vl,h1,h2,h3,h4,h5⟩:=h;exact ⟨vn,vd,vb,vm,vx,vl,h1.ext hx,h2.ext hx,h3.ext hx,h4.ext hx,h5.ext hx⟩
def OneSp (w:World) (v:Value) (s:Rat×Rat):Prop:=∃ b cs,v = .slice (some ⟨b,0,none⟩) 1 1∧Blk w b 47 cs∧cs.length=6∧zw w (.agg cs.toArray) s.1 s.2
theorem OneSp.ext (h:OneSp w v s) (hx:Ext w w'):OneSp w' v s:=by
 obtain ⟨b,cs,h1,h2,h3,h4⟩:=h;exact ⟨b,cs,h1,h2.ext hx,h3,h4.ext hx⟩
section laws
variable {K:Value→World→Prop} {d:Option Tmp}
theorem zJC (hy:zw w (σ y) s.1 s.2) (hk:∀ v w',Ext w w'→OneSp w' v s→K v w'):Runs prog r ⟨d,.buildSlice 198 1 #[(0,y)],ty,pos,af,g⟩ σ w K:=by
 obtain ⟨n1,d1,n2,d2,e,h1,h2⟩:=hy;obtain ⟨p1,l1,c1,p2,l2,c2,e1⟩:=zBG h1;obtain ⟨p3,l3,c3,p4,l4,c4,e2⟩:=zBG h2;injection e1 with e1;injection e2 with e2;injection e1 with e1;injection e2 with e2;simp only [List.cons.injEq,and_true] at e1 e2;obtain ⟨-,rfl,rfl⟩:=e1;obtain ⟨-,rfl,rfl⟩:=e2;refine zR (cs:=[.bool (decide (s.1<0)),.slice p1 l1 c1,.slice p2 l2 c2,.bool (decide (s.2<0)),.slice p3 l3 c3,.slice p4 l4 c4]) zGU info47b (by decide) (by decide) ?_ fun b w' hb hE hB hs=>hk _ _ hE ⟨b,_,rfl,hB,rfl,zFh (h1.ext hE) (h2.ext hE)⟩;show Instr.fill _ _ [(0,σ y)]=_;rw [e]
 kernel_rfl
theorem runs_appSp (hx:σ x=v) (hv:v = .slice none 0 0) (hy:σ y=v2) (h:OneSp w v2 s) (hk:∀ u w',Ext w w'→IsBox w' u [s]→K u w'):Runs prog r ⟨d,.call { callee := .builtin .append,args := #[x,y],argTypes := #[198,198] },ty,pos,af,g⟩ σ w K:=by
 subst hv;obtain ⟨b,cs,rfl,hB,hl,hS⟩:=h;have hn:Cells w (some ⟨b,0,none⟩) 47 cs := .inr ⟨b,0,cs,rfl,hB,by rw [List.drop_zero,List.take_length]⟩;refine zAJ (n:=6) (bytes:=112) zGU zGU zNo rfl (by decide) hx hy (old:=[]) (.inl rfl) rfl hn (by rw [hl]) (by omega) (by decide) fun w' rest c' hc hE hB' hr hs=>hk _ _ hE ⟨_,c',rfl,fun j hj => ?_⟩;have hj0:j=0:=by simp at hj;omega
 subst hj0;refine ⟨_,_,rfl,hB',by simp;omega,?_⟩;rw [Nat.mul_zero,List.drop_zero,List.nil_append,List.take_append_of_le_length (by omega),List.take_of_length_le (by omega)];exact hS.ext hE
theorem runs_rangestore (hx:σ x = .pointer (some ⟨b,0,none⟩)) (hy:σ y = .agg #[S lo,S hi]) (hB:Blk w b 113 [.string ⟨#[]⟩,.string ⟨#[]⟩])
 (hk:∀ w',Upd b w w'→Blk w' b 113 [S lo,S hi]→K undef w'):Runs prog r ⟨d,.store 113 x y,ty,pos,af,g⟩ σ w K :=
 zZ size113 hx hB (by rw [hy];rfl) (Nat.le_of_ble_eq_true rfl) (by decide) (by rw [hy];rfl) fun w' hU hN=>hk w' hU (by rw [hy] at hN;exact hN)
end laws
theorem steep_ok {s:List UInt8} {l:List Nat} (hl:zBx w vp l) (hpos:0<l.length) (h20:l.getD 0 0≤20):Ret prog 217 #[.agg #[S s,vp]] w (fun r _=>r = .bool false):=by
 obtain ⟨b,T,cs,c,rfl,hB,h3,h4,h5⟩:=hl;refine J0 8 func217 rfl (rj fun K => ?_);refine K1 (zk fun b1 w1 hb hE hB1 hs => ?_);replace E0:=E0.trans hE;clear hE hs hb;replace hB1:Blk _ b1 122 [S s,.slice (some ⟨b,0,none⟩) l.length c]:=hB1;refine ag (rm [1] K ?_);refine rj fun K=>K1 (zB zDa rfl (K1 (zD zCd rfl hB1 rfl (K1 (zDV (ix:=0) sl120 rfl rfl hpos (K1 (zD zBR rfl (hB.ext E0) (h3 0 hpos) (K9 false rfl (decide_eq_false (by omega)) (ag (rm [2] K ?_))))))))));exact zE (en rfl E0 rfl)
theorem zMV {l:List SyT} (h:i<l.length):l.getD i tn∈l:=by
 rw [List.getD_eq_getElem?_getD,List.getElem?_eq_getElem h];exact List.getElem_mem h
theorem ixTerms_ok (hT:zAX w v ts) (hl:ts.length≤2000) (hst:∀ t∈ts,0<t.pows.length∧t.pows.getD 0 0≤20):Ret prog 280 #[v,.func (.func 217) #[] #[]] w (fun r _=>r = .int .i64 (-1)):=by
 obtain ⟨p,c,rfl,hT⟩:=hT;have E0:Ext w w:=Ext.refl w;refine J0 19 func280 rfl (rj fun K=>ag (rm [0,1] K ?_));refine zA (rJ fun K=>K1 (zJ zCu rfl (mv (rm [0,1,7,8] K ?_))));refine zG (zo (X:=Nat) (fun i ρ w'=>Keep ρ [(0,.slice p ts.length c),(1,.func (.func 217) #[] #[]),(7,.int .i64 (ts.length:Int)),(8,.int .i64 ((i:Nat):Int))]∧i≤ts.length∧Ext w w') (fun i=>ts.length-i) 0 ⟨(kp rfl),Nat.zero_le _,E0⟩ ?_);clear E0;rintro i ρ1 w1 ⟨hk,hil,E0⟩;refine wpe_k _ hk ?_;clear hk ρ1;refine rj fun K=>K8 rfl (rm [0,1,7,8,9] K ?_);refine zA ?_;refine K0 rfl ?_ ?_<;>intro hc
 · have hlt:i<ts.length:=t_lt hc;clear hc;refine sk (zA (zG (rJ fun K=>ag (rm [0,1,5,7,8] K ?_))));refine zA ?_;obtain ⟨bb,cs,vp,rfl,hBb,hlb,hcb,hIb⟩:=(hT.ext E0) i hlt;refine rI fun K=>mv (mv (K1 (zBO zCu rfl rfl hlt (K1 (zCt rfl rfl hBb hlb hcb ?_)))));clear hcb hlb hBb;refine K1 (zBU rfl hb217 (CallK.of_ret (steep_ok hIb (hst _ (zMV hlt)).1 (hst _ (zMV hlt)).2) fun vi w2 hE hr => ?_));replace E0:=E0.trans hE;clear hE hIb;subst hr;refine rs [0,1,5,7,8,16] K ?_;exact wcf rfl (zz (zT (zN (K6 fun K=>K8 rfl (mv (rl K (zV (⟨rfl,i+1,⟨⟨rfl,rfl,rfl,rfl,rfl,rfl,rfl,congrArg (Value.int .i64) (zAD (by omega)),trivial⟩,by omega,E0⟩,by omega⟩))))))))
 · clear hc;refine zi (zAE (zv (zP (zN (rj fun K=>ag (rm [0,1,4,7,8] K ?_))))));exact zE (en rfl E0 rfl)
theorem zHu (hT:zAX w v ts) (hl:ts.length≤2000) (hst:∀ t∈ts,0<t.pows.length∧t.pows.getD 0 0≤20):Ret prog 218 #[v,.func (.func 217) #[] #[]] w (fun r _=>r = .bool false):=by
 refine J0 9 func218 rfl (rj fun K=>ag (rm [0,1] K ?_));refine rJ fun K=>mv (K1 (j0 E0 hb280 (ixTerms_ok hT hl hst) fun vi w2 E0 hr => ?_));subst hr;refine K9 false rfl (by decide) (ag (rm [4] K ?_));exact zE (en rfl E0 rfl)
theorem BoxR.updT {T:Nat} (h:BoxR w p box) (hu:Upd c w w') (hc:Blk w c T cs) (hT:T≠164) (hT2:T≠47):BoxR w' p box:=fun j hj=>by
 obtain ⟨b,cs',h1,h2,h3,h4⟩:=h j hj;exact ⟨b,cs',h1,h2.upd hu (fun e=>by subst e;exact hT2 (hc.inj h2).1),h3,h4.updT hu hc hT⟩
theorem IsBox.updT {T:Nat} (h:IsBox w v box) (hu:Upd c w w') (hc:Blk w c T cs) (hT:T≠164) (hT2:T≠47):IsBox w' v box:=by
 obtain ⟨p,k,h1,h2⟩:=h;exact ⟨p,k,h1,h2.updT hu hc hT hT2⟩
theorem zCl.updT {T:Nat} {A:List Band} (h:zCl w v A) (hu:Upd c w w') (hc:Blk w c T cs) (hT:T≠164) (hT2:T≠144):zCl w' v A:=by
 obtain ⟨p,k,h1,h2⟩:=h;refine ⟨p,k,h1,?_⟩;rcases h2 with h2 | ⟨b,cs',e1,e2,e3,e4⟩
 · exact .inl h2
 · exact .inr ⟨b,cs',e1,e2.upd hu (fun e=>by subst e;exact hT2 (hc.inj e2).1),e3,fun i B hB=>(e4 i B hB).updT hu hc hT⟩
theorem fread_ok {vm:Value} {den:List SyT} {a b:Rat} {ms:List BandT} {l:List Band} {M1 M2:List (List Nat×Rat)} {cuts:Nat} (hn:zAX w vn num) (hd:zAX w vd den) (hrg:zBq w vr lo hi) (hmk:zCp w vm ms) (hl1:num.length≤2000) (hl2:den.length≤2000) (h1:readL 2 num []=some M1) (h2:readL 2 den []=some M2) (s1:∀ t∈num,0<t.pows.length∧t.pows.getD 0 0≤20) (s2:∀ t∈den,0<t.pows.length∧t.pows.getD 0 0≤20) (hr1:lo.length<1000000000) (hr2:hi.length<1000000000) (hp1:zr lo=(a,0)) (hp2:zr hi=(b,0)) (hrr:rroom a b=true) (hle:¬ 0<rcmpI a b) (hmt:∀ (i:Nat) (t:BandT),ms[i]? = some t→t.lo.length<1000000000∧t.hi.length<1000000000∧t.least.length<1000000000∧t.most.length<1000000000) (hbs:zEZ ms=some (l,0)) (hcu:cuts≤100):Ret prog 134 #[.agg #[vn,vd,vr,vm],.int .i64 (cuts:Int)] w (fun r w'=>∃ pb,r = .tuple #[.pointer (some ⟨pb,0,none⟩),.int .i64 0]∧zDy w' pb num den [(a,b)] l):=by
 obtain ⟨rb,rc,rcs,rfl,hrB,hrl,hrc⟩:=hrg;have hn0:=hn;have hd0:=hd;obtain ⟨pn,cn,rfl,-⟩:=hn0;obtain ⟨pd,cd,rfl,-⟩:=hd0;have hmk0:=hmk;obtain ⟨pm,cm,rfl,-⟩:=hmk0;have E0:Ext w w:=Ext.refl w;refine J0 100 func134 rfl (rj fun K => ?_);refine K1 (zk fun b1 w1 hb hE hB1 hs => ?_);have hgb1:w.heap.size≤b1:=by rw [hb];exact E0.size
 replace E0:=E0.trans hE;clear hE hs hb;replace hB1:Blk _ b1 105 [.slice pn num.length cn,.slice pd den.length cd,.slice (some ⟨rb,0,none⟩) 1 rc,.slice pm ms.length cm]:=hB1;refine ag (ag (rm [1,2] K ?_));refine zA (rj fun K=>K1 (zB zHq rfl (K1 (zD zHL rfl hB1 rfl (K1 (zJ zGP rfl (K9 false rfl (by decide) (rm [1,2,20] K ?_))))))));refine wcf rfl (sk (zA (rj fun K=>K1 (zB zJf rfl (K1 (zD zBs rfl hB1 rfl (K1 (zB zJg rfl (K1 (zD zBs rfl hB1 rfl (K1 (zj (cs := #[.slice pn num.length cn,.slice pd den.length cd]) (by kernel_rfl) (mv (rm [1,2,25,26] K ?_))))))))))))));refine zG (zo (X:=Nat) (fun i ρ w'=>Keep ρ [(1,.int .i64 (cuts:Int)),(2,.pointer (some ⟨b1,0,none⟩)),(25,.agg #[.slice pn num.length cn,.slice pd den.length cd]),(26,.int .i64 ((i:Nat):Int))]∧i≤2∧Ext w w'∧Blk w' b1 105 [.slice pn num.length cn,.slice pd den.length cd,.slice (some ⟨rb,0,none⟩) 1 rc,.slice pm ms.length cm]) (fun i=>2-i) 0 ⟨(kp rfl),Nat.zero_le _,E0,hB1⟩ ?_);clear E0 hB1;rintro i ρ1 w1 ⟨hk,hil,E0,hB1⟩;refine wpe_k _ hk ?_;clear hk ρ1;refine rj fun K=>K8 rfl (rm [1,2,25,26,27] K ?_);refine zA ?_;refine K0 rfl ?_ ?_<;>intro hc
 · have hlt:i<2:=t_lt hc;clear hc;refine sk (zA (zG (zA ?_)));rcases (show i=0∨i=1 from by omega) with hi | hi
   · skip
     refine K6 fun K => ?_;refine K1 (zBf zLV zBs rfl rfl hlt (by rw [hi];rfl) ?_);refine ag (rs [1,2,7,25,26] K ?_);refine rJ fun K=>K1 (zB zHq rfl (K1 (zD zHL rfl hB1 rfl (K1 (zJ zGP rfl (K1 (zH (v := .int .i64 ((2:Nat):Int)) rfl rfl rfl (K1 (j1 E0 hB1.ext hb216 (zIU (hn.ext E0) (by decide) hl1 h1) fun vi w2 E0 hB1 hr => ?_)))))))));subst hr;refine ag (rm [1,2,8,25,26] K ?_);refine rJ fun K=>K9 false rfl (by decide) (rm [1,2,8,25,26,36] K ?_);exact wcf rfl (zz (zT (zN (K6 fun K=>K8 rfl (mv (rl K (zV (⟨rfl,i+1,⟨⟨rfl,rfl,rfl,rfl,rfl,rfl,rfl,congrArg (Value.int .i64) (zAD (by omega)),trivial⟩,by omega,E0,hB1⟩,by omega⟩))))))))
   · skip
     refine K6 fun K => ?_;refine K1 (zBf zLV zBs rfl rfl hlt (by rw [hi];rfl) ?_);refine ag (rs [1,2,7,25,26] K ?_);refine rJ fun K=>K1 (zB zHq rfl (K1 (zD zHL rfl hB1 rfl (K1 (zJ zGP rfl (K1 (zH (v := .int .i64 ((2:Nat):Int)) rfl rfl rfl (K1 (j1 E0 hB1.ext hb216 (zIU (hd.ext E0) (by decide) hl2 h2) fun vi w2 E0 hB1 hr => ?_)))))))));subst hr;refine ag (rm [1,2,8,25,26] K ?_);refine rJ fun K=>K9 false rfl (by decide) (rm [1,2,8,25,26,36] K ?_);exact wcf rfl (zz (zT (zN (K6 fun K=>K8 rfl (mv (rl K (zV (⟨rfl,i+1,⟨⟨rfl,rfl,rfl,rfl,rfl,rfl,rfl,congrArg (Value.int .i64) (zAD (by omega)),trivial⟩,by omega,E0,hB1⟩,by omega⟩))))))))
 · clear hc;refine zi (zAE (zv (zP (zN (rj fun K=>ag (rm [1,2,9,25,26] K ?_))))));refine zA (rj fun K=>K1 (zB zJf rfl (K1 (zD zBs rfl hB1 rfl (mv (K1 (j1 E0 hB1.ext hb218 (zHu (hn.ext E0) hl1 s1) fun vi w2 E0 hB1 hr => ?_)))))));subst hr;refine mv (K2 (zB zJg rfl (K2 (zD zBs rfl hB1 rfl (K7 (K2 (j1 E0 hB1.ext hb218 (zHu (hd.ext E0) hl2 s2) fun vi w2 E0 hB1 hr => ?_)))))));subst hr;refine pc0 rfl (rm [1,2,25,26,48] K ?_);refine wcf rfl (sk (rj fun K=>K1 (zW zJW rfl hB1 (Nat.le_of_ble_eq_true rfl) (K1 (zj (cs := #[.slice pn num.length cn,.slice pd den.length cd,.slice (some ⟨rb,0,none⟩) 1 rc,.slice pm ms.length cm,.slice none 0 0,.slice none 0 0]) (by kernel_rfl) ?_)))));refine K1 (zk fun b10 w3 hb hE hB10 hs => ?_);have hgb10:w.heap.size≤b10:=by rw [hb];exact E0.size
   have ne110:b1≠b10:=by have:=hB1.lt;omega
   replace E0:=E0.trans hE;replace hB1:=hB1.ext hE;clear hE hs hb;replace hB10:Blk _ b10 200 [.slice pn num.length cn,.slice pd den.length cd,.slice (some ⟨rb,0,none⟩) 1 rc,.slice pm ms.length cm,.slice none 0 0,.slice none 0 0]:=hB10;refine ag (rm [1,2,10,25,26] K ?_);refine zA (rj fun K=>K1 (zB zHq rfl (K1 (zD zHL rfl hB1 rfl (K1 (zJ zGP rfl (mv (rm [1,2,10,25,26,53,54,55] K ?_))))))));refine zG (zo (X:=Nat) (fun i ρ w'=>∃ vx,Keep ρ [(1,.int .i64 (cuts:Int)),(2,.pointer (some ⟨b1,0,none⟩)),(10,.pointer (some ⟨b10,0,none⟩)),(53,.slice (some ⟨rb,0,none⟩) 1 rc),(54,.int .i64 1),(55,.int .i64 ((i:Nat):Int))]∧i≤1∧Ext w w'∧Blk w' b1 105 [.slice pn num.length cn,.slice pd den.length cd,.slice (some ⟨rb,0,none⟩) 1 rc,.slice pm ms.length cm]∧Blk w' b10 200 [.slice pn num.length cn,.slice pd den.length cd,.slice (some ⟨rb,0,none⟩) 1 rc,.slice pm ms.length cm,vx,.slice none 0 0]∧(i=0→vx = .slice none 0 0)∧(i=1→IsBox w' vx [(a,b)])) (fun i=>1-i) 0 ⟨_,(kp rfl),Nat.zero_le _,E0,hB1,hB10,fun _=>rfl,fun e=>by cases e⟩ ?_);clear E0 hB1 hB10;rintro i ρ1 w1 ⟨vx,hk,hil,E0,hB1,hB10,hx0,hx1⟩;refine wpe_k _ hk ?_;clear hk ρ1;refine rj fun K=>K8 rfl (rm [1,2,10,53,54,55,56] K ?_);refine zA ?_;refine K0 rfl ?_ ?_<;>intro hc
   · have hlt:i<1:=t_lt hc;clear hc;obtain rfl:i=0:=by omega
     obtain rfl:=hx0 rfl;clear hx0 hx1;refine sk (zA (zG (rj fun K=>K1 (zBO (ix:=0) zGP rfl rfl (by decide) (K1 (zW zMj rfl (hrB.ext E0) (by omega) ?_))))));rw [Nat.mul_zero,hrc];refine K1 (zK zero113 fun b12 w3 hb hE hBc hs=>K1 (runs_rangestore rfl rfl hBc fun w4 hU hB12 => ?_));replace hE:=hE.upd hU (by rw [hb];exact Nat.le_refl _);replace E0:=E0.trans hE;replace hB1:=hB1.ext hE;replace hB10:=hB10.ext hE;clear hE hb hs hU hBc;refine rm [1,2,10,12,53,54,55] K ?_;refine rj fun K=>K1 (zW zMj rfl hB12 (Nat.le_of_ble_eq_true rfl) (K1 (j3 E0 hB1.ext hB10.ext hB12.ext hb144 (SpanOf_ok hr1 hr2 hp1 hp2 hrr hle) fun v61 w2 E0 hB1 hB10 hB12 hr => ?_)));obtain ⟨u1,rfl,N13⟩:=hr;refine mv (xt rfl (xt rfl ?_));refine K1 (zK zero47' fun b13 w3 hb hE hBc hs=>K1 (zAC rfl (N13.ext hE) hBc rfl fun w4 cs4 hU hN4 hl4 hS4 => ?_));have hS:zAj b13 a b w4:=⟨cs4,hN4,hl4,hS4⟩;replace hE:=hE.upd hU (by rw [hb];exact Nat.le_refl _);have hgb13:w.heap.size≤b13:=by rw [hb];exact E0.size
     replace E0:=E0.trans hE;replace hB1:=hB1.ext hE;replace hB10:=hB10.ext hE;replace hB12:=hB12.ext hE;clear hE hb hs hU hBc hN4 hl4 hS4 N13;refine ag (rm [1,2,10,13,14,53,54,55] K ?_);refine zA (rJ fun K=>K9 false rfl (by decide) (rm [1,2,10,13,14,53,54,55,65] K ?_))
     refine wcf rfl (sk (zEy 8 [([(10,none)],none),([(10,none)],none),([(68,some 0)],none),([(69,some 0)],none),([(70,some 0)],none),([(13,none)],none),([(72,some 0)],none),([(71,some 2),(73,some 0)],none)] mixed (by kernel_rfl) (by kernel_rfl) (by kernel_rfl) (by kernel_rfl) (by kernel_rfl) fun K hK=>dvp (fun σ wx hE hk=>zF ⟨Ext.refl _,hk.1⟩) (dvp (fun σ wx hE hk=>zF ⟨Ext.refl _,hk.1⟩) (dcp (fun v _=>v = .pointer (some ⟨b10,0,none⟩)) (fun _ _ _ _ _ h=>h) (fun σ wx hE hk=>zAI hk.1 ⟨Ext.refl _,rfl⟩) (dvp (fun σ wx hE hk=>zB zHr hk.1 ⟨Ext.refl _,rfl⟩) (dcp (fun v _=>v = .slice none 0 0) (fun _ _ _ _ _ h=>h) (fun σ wx hE hk=>zD zGC hk.1 (hB10.ext hE) rfl ⟨Ext.refl _,rfl⟩) (dcp (fun v w'=>zw w' v a b) (fun _ _ _ _ hx h=>h.ext hx.toExt) (fun σ wx hE hk=>zAL hk.1 (hS.ext hE) fun v h=>⟨Ext.refl _,h⟩) (dcp (fun v w'=>OneSp w' v (a,b)) (fun _ _ _ _ hx h=>h.ext hx.toExt) (fun σ wx hE hk=>zJC (s:=(a,b)) hk.1 fun v w2 hX h=>⟨hX,h⟩) (dcp (fun v w'=>IsBox w' v [(a,b)]) (fun _ _ _ _ hx h=>h.ext hx.toExt) (fun σ wx hE hk=>runs_appSp rfl hk.1 rfl hk.2.1 fun v w2 hX h=>⟨hX,h⟩) (zAR (hK _ fun wq hE => ?_)))))))))));rintro _ rfl _ rfl v69 N69 _ rfl v71 N71 v72 N72 v73 N73 v74 N74;refine zU ?_;replace E0:=E0.trans hE;replace hB1:=hB1.ext hE;replace hB10:=hB10.ext hE;clear hE
     refine K1 (zAI rfl (K1 (zB zHr rfl ?_)));obtain ⟨p74,c74,rfl,hbx⟩:=N74;refine K1 (zZ size198 rfl hB10 rfl (Nat.le_of_ble_eq_true rfl) (by decide) rfl fun w9 hU hN => ?_);replace E0:=E0.upd hU hgb10;replace hB1:=hB1.upd hU ne110;have hBox:IsBox w9 (.slice p74 1 c74) [(a,b)]:=⟨p74,c74,rfl,hbx.updT hU hB10 (by decide) (by decide)⟩;clear hU hB10 hbx;have hB10:Blk w9 b10 200 [.slice pn num.length cn,.slice pd den.length cd,.slice (some ⟨rb,0,none⟩) 1 rc,.slice pm ms.length cm,.slice p74 1 c74,.slice none 0 0]:=hN;clear hN;refine zAi (zT (zN (K5 [1,2,10,53,54,55] ?_)));exact K6 fun K=>K8 rfl (mv (rl K (zV (⟨rfl,0+1,⟨_,⟨rfl,rfl,rfl,rfl,rfl,rfl,rfl,rfl,rfl,rfl,rfl,congrArg (Value.int .i64) (zAD (by omega)),trivial⟩,by omega,E0,hB1,hB10,(fun e=>by cases e),fun _=>hBox⟩,by omega⟩))))
   · have hge:1≤i:=f_lt hc;clear hc;obtain rfl:i=1:=by omega
     have hBox:=hx1 rfl;clear hx0 hx1;refine zi (zAE (zv (zP (zN (rj fun K=>K1 (zB fo105_3 rfl (K1 (zD plain41 rfl hB1 rfl (K1 (zC hb87 (CallK.of_ret (zLW (hmk.ext E0) hmt hbs) fun v81 w2 hE hr => ?_) rfl))))))))));have hsz:=E0.size;obtain ⟨vl,rfl,hA⟩:=hr;replace hA:=hA.bands;replace E0:=E0.trans hE;replace hB10:=hB10.ext hE;replace hBox:=hBox.ext hE;clear hE hB1;obtain ⟨pl,cl,rfl,hA⟩:=hA;refine mv (xt rfl (xt rfl (ag (ag (rm [1,2,10,15,16,53,54,55] K ?_)))));refine zA (rJ fun K=>K9 true rfl (by decide) (mv (K7 (K2 (zH (v := .bool false) rfl rfl (congrArg (fun z=>some (Value.bool z)) (decide_eq_false (by omega))) (K7 (K7 (K2 (zH (v := .bool false) rfl rfl (congrArg (fun z=>some (Value.bool z)) (decide_eq_false (by omega))) (K2 (zAd rfl (pc0 rfl (rm [1,2,10,15,16,53,54,55,93] K ?_)))))))))))));refine wcf rfl (sk (rJ fun K=>mv (K1 (zAI rfl (K1 (zB zGe rfl (K1 (zZ size139 rfl hB10 rfl (Nat.le_of_ble_eq_true rfl) (by decide) rfl fun w9 hU hN => ?_))))))));have hBs:zCl w9 (.slice pl l.length cl) l:=zCl.updT ⟨pl,cl,rfl,hA⟩ hU hB10 (by decide) (by decide);replace E0:=E0.upd hU hgb10;replace hBox:=hBox.updT hU hB10 (by decide) (by decide);clear hU hB10 hA;refine rm [1,2,10,16,53,54,55] K ?_;refine rJ fun K=>mv (ag (ag (rm [1,2,4,5,10,53,54,55] K ?_)))
     exact zE (zQ ⟨rfl,_,zn rfl rfl rfl,E0,b10,rfl,_,_,_,_,_,_,hN,hn.ext E0,hd.ext E0,hBox,hBs⟩)
end Go.Proofs.YtjiendlfobjanaaGreatDoor
