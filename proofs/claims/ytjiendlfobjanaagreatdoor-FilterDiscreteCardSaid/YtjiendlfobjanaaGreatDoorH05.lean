/-
  A part of the proof: W41, W42, W43, W44, Dec, StrL, W59, W45p, W45, Ref30, W46, W47, W48, W49, W50, RNum, W51, W52, RList, W53, W54, W60, W61, RPoly, W62, W63, W64, Rev98, LawH, LawS, W56, W57, W58.
-/
import Derived.Test.YtjiendlfobjanaaGreatDoorH04
import Derived.Lib.ItoaNum
import Derived.Shelf.SlicesQ.Reverse
namespace Go.Proofs.YtjiendlfobjanaaGreatDoor
open Go Go.RowKit Go.Proofs Tryz
set_option maxRecDepth 10000
set_option maxHeartbeats 2000000
variable {N b fuel n s t:Nat} {P:Program} {T T':TypeId} {cs:List Value} {fn:Func} {num:Poly} {u1 u2 v:Value} {w:World} {ρ:Env}
section gives
theorem zGc {u:Nat} (h:fn.results = #[.tmp s,.cell t T,.tmp u]) (hs:(dom ρ).contains s=true) (hd:(dom ρ).contains t=true) (hu:(dom ρ).contains u=true) (hv:look1 ρ t = .pointer (some ⟨b,0,none⟩)) (hT:Aggr P T n) (hB:Blk w b T' cs) (hn:cs.length=n):Gives P fn N ρ w (.tuple #[look1 ρ s,.agg cs.toArray,look1 ρ u]):=fun a hf=>by
 have h0:=hf.at_ s (by simpa using hs);have h1:=hf.at_ t (by simpa using hd);have h4:=hf.at_ u (by simpa using hu);rw [hv] at h1;have h2:=zCK (o:=0) hT hB (by omega);have h3:((cs.drop 0).take n).toArray=cs.toArray:=by rw [List.drop_zero,List.take_of_length_le (by omega)]
 rw [h3] at h2;rw [Array.getD_eq_getD_getElem?] at h1;simp only [results,h];rw [← h0,← h4];simp [h1,asAddr,h2]
end gives
attribute [local irreducible] Runs WPE CallK Ret
def zOJ (num den:Poly) (m:List BandT) (fuel:Nat):Option (Int×Rat×Int) :=
 if 21<max (trim num).length (trim den).length then some (0,0,3) else (zIs m).bind fun l=>if l.2≠0 then some (0,0,l.2) else
  (zHK num den l.1 0).bind fun k=>if 0≤k then (l.1[k.toNat]?).bind fun B=>(rules num den B.least B.most).bind fun r=>(rsub B.hi B.lo).bind fun d=>(witN r.1 r.2 B.lo (rabs d) fuel 1).map fun x=>(k,x,0)
  else some (k,0,0)
theorem zJf:∀ {l:List BandT} {A:List Band} {R:List Band×Int},zFv l A=some R→R.1.length≤A.length+l.length
 | [],A,R,h=>by cases h;simp
 | t :: l,A,R,h=>by
  unfold zFv at h;split at h
  · cases h;simp
  · split at h
    · cases h;simp
    · split at h
      · cases h;simp
      · split at h
        · cases h;simp
        · obtain ⟨bad,_,h⟩:=bind_some h;split at h
          · cases h;simp
          · have:=zJf h;simp at this ⊢;omega
theorem bandsS_len {m:List BandT} {R:List Band×Int} (h:zIs m=some R):R.1.length≤6:=by
 unfold zIs at h;split at h
 · cases h;simp
 · have:=zJf h;simp at this;omega
theorem Meets_ok {den:Poly} {m:List BandT} {R:Int×Rat×Int} (h1:zO w u1 num) (h2:zO w u2 den) (hm:zJZ w v m) (hlen:∀ (i:Nat) (t:BandT),m[i]? = some t→t.lo.length<1000000000∧t.hi.length<1000000000∧t.least.length<1000000000∧t.most.length<1000000000) (hfu:2^fuel≤1099511627776) (h:zOJ num den m fuel=some R):Ret prog 29 #[u1,u2,v] w (fun r w'=>∃ u,r = .tuple #[.int .i64 R.1,u,.int .i64 R.2.2]∧IsNum w' u R.2.1):=by
 have hnl:num.length≤4096:=by obtain ⟨_,_,_,_,_,h4⟩:=h1;exact h4
 have hdl:den.length≤4096:=by obtain ⟨_,_,_,_,_,h4⟩:=h2;exact h4
 have htn:=zAw num;have htd:=zAw den;refine J0 41 func29 rfl (rj fun K=>ag ?_);refine K1 (zd zAa fun b1 w1 hb hE hB1 hs => ?_);have hgb1:w.heap.size≤b1:=by rw [hb];exact E0.size
 replace E0:=E0.trans hE;clear hE hs hb;refine ag (rm [0,1,2,7] K ?_);refine zA (zA ?_);replace hB1:Blk _ b1 37 [.bool false,.slice none 0 0,.slice none 0 0]:=hB1;refine rI fun K=>K1 (j1 E0 hB1.ext hb18 (zCo (h1.ext E0)) fun vi w2 E0 hB1 hr => ?_);subst hr;refine mv (K1 (j1 E0 hB1.ext hb18 (zCo (h2.ext E0)) fun vi w2 E0 hB1 hr => ?_));subst hr;refine K1 (zCG rfl rfl ?_);have hmx:(if (((trim num).length:Int)-1)<(((trim den).length:Int)-1) then (((trim den).length:Int)-1) else (((trim num).length:Int)-1))=max ((trim num).length:Int) (trim den).length-1:=by split<;>omega
 rw [hmx];refine K8 rfl (rs [0,1,2,7,15] K ?_);refine K0 rfl ?_ ?_<;>intro hc
 · have hb:21<max (trim num).length (trim den).length:=by have:=of_decide_eq_true hc;omega
   clear hc;unfold zOJ at h;rw [if_pos hb] at h;obtain rfl:=Option.some.inj h;refine rj fun K=>K1 (zf (cs := #[.bool false,.slice none 0 0,.slice none 0 0]) (by kernel_rfl) (ag (K1 (zK rfl IsNum.zero (Cell3.of hB1 rfl) fun _ w9 hU hNA => ?_))));replace E0:=E0.upd hU hgb1;refine ag (rm [6,7,8] K ?_);refine zB (zU (zQ ?_));obtain ⟨cs4,hB4,hl4,hN4⟩:=hNA;exact ⟨rfl,_,zGc rfl rfl rfl rfl rfl zz hB4 hl4,E0,_,rfl,hN4⟩
 · have hb:¬ 21<max (trim num).length (trim den).length:=by have:=of_decide_eq_false hc;omega
   clear hc;unfold zOJ at h;rw [if_neg hb] at h;obtain ⟨l,hl,h⟩:=bind_some h;have hll:=bandsS_len hl;refine sk (rJ fun K=>K1 (j1 E0 hB1.ext hb87 (bands_ok (hm.ext E0) hlen hl) fun v19 w2 E0 hB1 hr => ?_));obtain ⟨u,rfl,hA⟩:=hr;have hA:=hA.bands;refine mv (xt rfl (xt rfl (ag (ag (rm [0,1,7,8,9] K ?_)))));refine zA (rJ fun K=>K8 rfl (rm [0,1,7,8,9,23] K ?_));refine K0 rfl ?_ ?_<;>intro hc
   · have he:l.2≠0:=bne_iff_ne.1 hc;clear hc;rw [if_pos he] at h;obtain rfl:=Option.some.inj h;refine rj fun K=>K1 (zf (cs := #[.bool false,.slice none 0 0,.slice none 0 0]) (by kernel_rfl) (mv (ag (K1 (zK rfl IsNum.zero (Cell3.of hB1 rfl) fun _ w9 hU hNA => ?_)))));replace E0:=E0.upd hU hgb1;refine ag (rm [6,7,8] K ?_);refine zB (zU (zQ ?_));obtain ⟨cs4,hB4,hl4,hN4⟩:=hNA;exact ⟨rfl,_,zGc rfl rfl rfl rfl rfl zz hB4 hl4,E0,_,rfl,hN4⟩
   · have he:l.2=0:=bne_eq_false_iff_eq.1 hc;clear hc;rw [if_neg (by omega)] at h;obtain ⟨k,hk,h⟩:=bind_some h;refine sk (zA (rJ fun K=>mv (mv (K1 (j2 E0 hB1.ext hA.ext hb88 (failing_ok (h1.ext E0) (h2.ext E0) hA (by omega) hk) fun vi w2 E0 hB1 hA hr => ?_)))));subst hr;refine ag (rm [0,1,6,7,9] K ?_);refine rJ fun K=>K8 rfl (rm [0,1,6,7,9,31] K ?_);refine K0 rfl ?_ ?_<;>intro hc
     · have hk0:0≤k:=by have:=of_decide_eq_true hc;omega
       clear hc;rw [if_pos hk0] at h;obtain ⟨B,hB,h⟩:=bind_some h;obtain ⟨⟨up,low⟩,hr1,h⟩:=bind_some h;obtain ⟨d,hr2,h⟩:=bind_some h;obtain ⟨x,hr3,hR⟩:=map_some h;obtain ⟨hrw,rfl⟩:=zMN hr2;obtain ⟨n,rfl⟩:∃ n:Nat,k=n:=⟨k.toNat,by omega⟩;rw [Int.toNat_natCast] at hB;have hlt:n<l.1.length:=(List.getElem?_eq_some_iff.1 hB).1;obtain ⟨ap,ac,rfl,hAA⟩:=hA;obtain ⟨ab,cs,hap,hAB,hAl,hAt⟩:=(hAA.resolve_left (fun e=>by rw [e] at hlt;simp at hlt));refine rI fun K=>mv (K1 (zE zKj (congrArg (fun q=>Value.slice q l.1.length ac) hap) rfl (by omega) (by omega) ?_));rw [Int.toNat_natCast,Nat.zero_add,Nat.mul_comm];refine K1 (zGP rfl hAB hAl hAt hB fun v35 N35 => ?_);clear hAB hAt hAA;refine mv (mv (K1 (j1 E0 hB1.ext hb89 (witness_ok N35 (h1.ext E0) (h2.ext E0) hr1 hrw hr3 hfu) fun v38 w2 E0 hB1 N38=>K1 (zK rfl N38 (Cell3.of hB1 rfl) fun _ w9 hU hNA => ?_))));replace E0:=E0.upd hU hgb1
       try clear N38
       rw [show x=R.2.1 from by rw [← hR]] at hNA;refine rs [6,7] K ?_;refine zA (zDF 3 [([(6,none)],none),([(7,none)],none),([(39,some 1)],none)] mixed (by kernel_rfl) (by kernel_rfl) (by kernel_rfl) (by kernel_rfl) (by kernel_rfl) fun K hK=>dvp (fun σ wx hE hk=>zC ⟨Ext.refl _,hk.1⟩) (dcp (fun v w'=>IsNum w' v R.2.1) (fun _ _ _ _ hx h=>h.ext hx.toExt) (fun σ wx hE hk=>zR hk.1 (hNA.ext hE) fun v h=>⟨Ext.refl _,h⟩) (dvp (fun σ wx hE hk=>zZ ⟨Ext.refl _,hk.1⟩) (zBW (hK _ fun wq hE => ?_)))));rintro _ rfl v40 N40 _ rfl;refine zn ?_;replace E0:=E0.trans hE;replace hNA:=hNA.ext hE;clear hE;obtain ⟨cs4,hB4,hl4,-⟩:=hNA;refine K1 (zK rfl N40 (Cell3.of hB4 hl4) fun _ w9 hU hNA => ?_);replace E0:=E0.upd hU hgb1;refine ag (zFr (zN (K5 [6,7,8] ?_)));refine zB (zQ ?_);obtain ⟨cs5,hB5,hl5,hN5⟩:=hNA;exact ⟨rfl,_,zGc rfl rfl rfl rfl rfl zz hB5 hl5,E0,_,by rw [← hR];rfl,hN5⟩
     · have hk0:¬ 0≤k:=by have:=of_decide_eq_false hc;omega
       clear hc;rw [if_neg hk0] at h;have hR:(k,0,0)=R:=Option.some.inj h;have hNA:NumAt b1 0 _:=⟨_,hB1,rfl,IsNum.zero⟩;rw [show (0:Rat)=R.2.1 from by rw [← hR]] at hNA;refine sk (zA (zDF 3 [([(6,none)],none),([(7,none)],none),([(39,some 1)],none)] mixed (by kernel_rfl) (by kernel_rfl) (by kernel_rfl) (by kernel_rfl) (by kernel_rfl) fun K hK=>dvp (fun σ wx hE hk=>zC ⟨Ext.refl _,hk.1⟩) (dcp (fun v w'=>IsNum w' v R.2.1) (fun _ _ _ _ hx h=>h.ext hx.toExt) (fun σ wx hE hk=>zR hk.1 (hNA.ext hE) fun v h=>⟨Ext.refl _,h⟩) (dvp (fun σ wx hE hk=>zZ ⟨Ext.refl _,hk.1⟩) (zBW (hK _ fun wq hE => ?_))))));rintro _ rfl v40 N40 _ rfl;refine zn ?_;replace E0:=E0.trans hE;replace hNA:=hNA.ext hE;clear hE;obtain ⟨cs4,hB4,hl4,-⟩:=hNA;refine K1 (zK rfl N40 (Cell3.of hB4 hl4) fun _ w9 hU hNA => ?_);replace E0:=E0.upd hU hgb1;refine ag (zFr (zN (K5 [6,7,8] ?_)));refine zB (zQ ?_);obtain ⟨cs5,hB5,hl5,hN5⟩:=hNA;exact ⟨rfl,_,zGc rfl rfl rfl rfl rfl zz hB5 hl5,E0,_,by rw [← hR];rfl,hN5⟩
end Go.Proofs.YtjiendlfobjanaaGreatDoor
namespace Go.Proofs.YtjiendlfobjanaaGreatDoor
open Go Go.RowKit Go.Proofs Tryz
set_option maxRecDepth 10000
set_option maxHeartbeats 2000000
variable {b c i:Nat} {cs:List Value} {w:World}
theorem small_fmt (h:i<100):Ret prog 331 #[.int .i64 (i:Int)] w (fun v _=>v=S (Lib.decDigits i)) :=
 (Tryz.internal_strconv_small i h w).mono fun e w' ⟨he,hw⟩=>⟨_,he,by rw [hw];exact Ext.refl w,rfl⟩
theorem join1_ok {x:List UInt8} (hB:Blk w b 9 cs) (h0:cs[0]? = some (S x)) (hc:1≤c) (hx:x.length≤1000000):Ret prog 243 #[.slice (some ⟨b,0,none⟩) 1 c,S []] w (fun v _=>v=S x):=by
 have hj:Lib.join ([(⟨x.toArray⟩:ByteArray)].map (·.data.toList)) (⟨#[]⟩:ByteArray).data.toList=x:=by simp [Lib.join]
 have:=Tryz.strings_Join b 0 c [⟨x.toArray⟩] ⟨#[]⟩ w (fun j y hy=>by
  cases j with
  | zero=>simp at hy;subst hy;rw [hB.cell];exact h0
  | succ j=>simp at hy) hB.lt (by simp) (by simpa using hc) (by rw [hj];omega)
 rw [hj] at this;exact this.mono fun e w' ⟨he,hw⟩=>⟨_,he,hw,rfl⟩
theorem zKE:prog.underlying 304=some (.slice 9):=by kernel_rfl
theorem slice304:zBA prog 304 9 1:=by unfold zBA;exact ⟨by kernel_rfl,by kernel_rfl⟩
theorem info9:(prog.info? 9).map (fun i=>(i.zero,i.size,i.bytes))=some (some (S []),1,16):=by kernel_rfl
theorem info9':(prog.info? 9).map (fun i=>(i.zero,i.size))=some (some (S []),1):=by kernel_rfl
attribute [local irreducible] Runs WPE CallK Ret
theorem fmt2_ok (h:i<100):Ret prog 298 #[.int .u64 (i:Int),.int .i64 10] w (fun r _=>r=S (Lib.decDigits i)):=by
 refine J0 32 func298 rfl (rj fun K=>ag (rm [0,1] K ?_));refine zA (rJ fun K=>K8 rfl (rm [0,1,10] K ?_));refine wct rfl (zA (rJ fun K=>K9 true rfl (decide_eq_true (by omega)) (rm [0,12] K ?_)));refine wct rfl (rJ fun K=>K1 (zCT under164' under3' rfl ?_));rw [show IntKind.i64.wrap (i:Int)=(i:Int) from zj (by omega) (by omega)];refine K1 (j0 E0 hb331 (small_fmt h) fun vi w2 E0 hr => ?_);subst hr;refine ag (rm [4] K ?_);exact zB (zU (zU (en rfl E0 rfl)))
theorem fmt_ok (h:i<100):Ret prog 240 #[.int .u64 (i:Int),.int .i64 10] w (fun r _=>r=S (Lib.decDigits i)):=by
 refine J0 8 func240 rfl (rj fun K=>ag (rm [0,1] K ?_));refine rJ fun K=>mv (K1 (j0 E0 hb298 (fmt2_ok h) fun vi w2 E0 hr => ?_));subst hr;refine ag (rm [4] K ?_);exact zB (en rfl E0 rfl)
end Go.Proofs.YtjiendlfobjanaaGreatDoor
namespace Go.Proofs.YtjiendlfobjanaaGreatDoor
open Go Go.RowKit Go.Proofs Tryz
set_option maxRecDepth 10000
set_option maxHeartbeats 2000000
attribute [local irreducible] Runs WPE CallK Ret
variable {N b c n:Nat} {P:Program} {fn:Func} {v:Value} {w:World} {ρ:Env}
theorem decDigits_0:Lib.decDigits 0=[48]:=by unfold Lib.decDigits;rfl
theorem zCb (h:n<100):(Lib.decDigits n).length≤2:=by
 unfold Lib.decDigits;split
 · simp
 · unfold Lib.decDigits;rw [dif_pos (by omega)];simp
theorem fit_100 (h:n<100):Fit n:=zGh (by omega)
def textS (q:Rat):List UInt8:=(if q<0 then [45] else [])++Lib.decDigits q.num.natAbs++(if q.den=1 then [] else 47 :: Lib.decDigits q.den)
theorem gives_0 (h:fn.results = #[]):Gives P fn N ρ w (.tuple #[]):=fun a hf=>by
 simp only [results,h];simp
theorem rev1_ok:Ret prog 242 #[.slice (some ⟨b,0,none⟩) 1 c] w (fun _ _=>True):=by
 have E0:Ext w w:=Ext.refl w;refine J0 28 func242 rfl (rJ fun K=>K1 (zG slice304 rfl (K1 (zAM (a:=1) (b:=1) (0) rfl rfl (by decide) (by decide) (ag (ag (rm [0,2,3] K ?_)))))));refine zD (ze (X:=Nat) (fun _ ρ w'=>Keep ρ [(2,.int .i64 0),(3,.int .i64 ((0:Nat):Int))]∧Ext w w') (fun _=>0) 0 ⟨(kp rfl),E0⟩ ?_);clear E0;rintro k ρ1 w1 ⟨hk,E0⟩;refine wpe_k _ hk ?_;clear hk ρ1;refine zA (rJ fun K=>mv (K8 rfl (rm [2,3,9] K ?_)));exact wcf rfl (zV (zv (zi (zL (zNl ⟨rfl,_,gives_0 rfl,E0,trivial⟩)))))
theorem zLQ (hx:IsW w v n) (hn:n<100):Ret prog 150 #[v] w (fun r _=>r=S (Lib.decDigits n)):=by
 obtain ⟨p,l,c,rfl,hl0⟩:=hx.form;have E0:Ext w w:=Ext.refl w;refine J0 38 func150 rfl (rj fun K=>ag (rm [0] K ?_));refine zA (rJ fun K=>K1 (zG zX rfl (K8 rfl (rm [0,9] K ?_))));refine K0 rfl ?_ ?_<;>intro hc
 · have hn0:n=0:=hl0.1 (by have:=eq_of_beq hc;omega);clear hc;refine rj fun K=>ag (rm [0,2] K ?_);refine zB (zU (zQ ?_));exact ⟨rfl,_,zg rfl rfl,E0,by rw [hn0,decDigits_0];rfl⟩
 · have hln:l≠0:=fun e=>by subst e;cases hc
   clear hc;refine sk (rj fun K=>ag (rm [0,3] K ?_));refine zA (zD (ze (X:=Nat) (fun k ρ w'=>(k=1∧Keep ρ [(0,.slice p l c),(3,.slice none 0 0)]∧Ext w w'∧IsW w' (.slice p l c) n)∨(k=0∧∃ (q:Value) (b cc:Nat) (cs:List Value),Keep ρ [(0,q),(3,.slice (some ⟨b,0,none⟩) 1 cc)]∧Ext w w'∧IsW w' q 0∧Blk w' b 9 cs∧cs[0]? = some (S (Lib.decDigits n))∧1≤cc)) (fun k=>k) 1 (.inl ⟨rfl,(kp rfl),E0,hx.ext E0⟩) ?_));clear E0;rintro k ρ1 w1 hF;refine zA (zA ?_);rcases hF with ⟨rfl,hk,E0,hA⟩ | ⟨rfl,q,b,cc,cs,hk,E0,hA,hB,hcs,hcc⟩
   · refine wpe_k _ hk ?_;clear hk ρ1;refine rI fun K=>K1 (zG zX rfl (K8 rfl (rs [0,3,12] K ?_)));refine wct (congrArg Value.bool (decide_eq_true (by omega))) (sk (zD (rJ fun K=>K1 (j0 E0 hb239 (zOo (b:=1000000000000000000) hA (fit_100 hn) (by decide) (by decide)) fun v15 w2 E0 hr => ?_))));obtain ⟨q,rfl,N15⟩:=hr;rw [Nat.div_eq_of_lt (by omega)] at N15;rw [Nat.mod_eq_of_lt (show n<1000000000000000000 by omega)];clear hA;refine mv (xt rfl (xt rfl (ag (ag (rm [0,3,4,5] K ?_)))));refine rJ fun K=>K1 (j1 E0 N15.ext hb240 (fmt_ok hn) fun vi w2 E0 N15 hr => ?_);subst hr;refine ag (rm [0,3,4,6] K ?_);refine zA (rj fun K=>mv ?_);obtain ⟨qp,ql,qc,rfl,hql⟩:=N15.form;have hql0:ql=0:=hql.2 rfl;refine K1 (zG zX rfl (K8 rfl (rm [0,3,4,6,22] K ?_)));refine wcf (congrArg Value.bool (decide_eq_false (by omega))) (sk (rJ fun K=>mv ?_));refine K1 (zc (cs:=[S (Lib.decDigits n)]) zKE info9' (by decide) (by decide) (by kernel_rfl) fun sb w10 hb hE hBb hs => ?_);replace E0:=E0.trans hE;replace N15:=N15.ext hE;clear hE hb hs;have hnew:=zAi (0+1) 0;refine K1 (zAW (n:=1) (old:=[]) zKE zKE info9 rfl (by decide) rfl rfl (.inl rfl) rfl (Cells.blk hBb) rfl (by decide) (by omega) fun w11 rest c9 hc9 hE hB9 _ _ => ?_);replace E0:=E0.trans hE;replace N15:=N15.ext hE;clear hE hBb hnew;refine ag (rm [0,3,4] K ?_)
     exact rI fun K=>ag (rl K (zS (zP (⟨rfl,0,.inr ⟨rfl,_,_,_,_,(kp rfl),E0,N15,hB9,rfl,hc9⟩,by omega⟩))))
   · obtain ⟨qp,ql,qc,rfl,hql⟩:=hA.form;have hql0:ql=0:=hql.2 rfl;refine wpe_k _ hk ?_;clear hk ρ1;refine rI fun K=>K1 (zG zX rfl (K8 rfl (rs [0,3,12] K ?_)));refine wcf (congrArg Value.bool (decide_eq_false (by omega))) (zV (zv (zi (zL (zN (rJ fun K=>K1 (j1 E0 hB.ext hb242 (rev1_ok) fun vr w2 E0 hB _=>rm [0,3] K ?_)))))));refine rj fun K=>mv ?_;refine K1 (j0 E0 hb243 (join1_ok hB hcs hcc (by have:=zCb hn;omega)) fun vi w2 E0 hr => ?_);subst hr;refine ag (rm [0,2,3] K ?_);exact zB (en rfl E0 rfl)
theorem zJL {q:Rat} (hx:IsNum w v q) (hq1:q.num.natAbs<100) (hq2:q.den<100):Ret prog 64 #[v] w (fun r _=>r=S (textS q)):=by
 obtain ⟨n,d,rfl,hn,hd⟩:=hx;have E0:Ext w w:=Ext.refl w;refine J0 22 func64 rfl (rj fun K => ?_);refine K1 (zAA fun b1 w1 hb hE hB1 hs => ?_);have hgb1:w.heap.size≤b1:=by rw [hb];exact E0.size
 replace E0:=E0.trans hE;clear hE hs hb;refine ag (rm [1] K ?_);refine zA ?_;replace hB1:Blk _ b1 37 [.bool (decide (q<0)),n,d]:=hB1;replace hn:=hn.ext E0;replace hd:=hd.ext E0;refine K6 fun K=>K1 (zJ zCS rfl (K1 (zI zAn rfl hB1 rfl (K1 (j3 E0 hB1.ext hn.ext hd.ext hb150 (zLQ hn hq1) fun vi w2 E0 hB1 hn hd hr => ?_)))));subst hr;refine ag (rs [1,3] K ?_);refine zBO (fun ρ w'=>Keep ρ [(1,.pointer (some ⟨b1,0,none⟩)),(3,S ((if q<0 then [45] else [])++Lib.decDigits q.num.natAbs))]∧Ext w w'∧Blk w' b1 37 [.bool (decide (q<0)),n,d]∧IsW w' d (if q.den=1 then 0 else q.den)) ?_ ?_
 · refine rj fun K=>K1 (zJ zDM rfl (K1 (zI zCj rfl hB1 rfl (rm [1,3,8] K ?_))));refine K0 rfl ?_ ?_<;>intro hc
   · have hneg:q<0:=of_decide_eq_true hc;clear hc;refine K6 fun K=>mv ?_;refine K1 (zIW (a:=[45]) rfl rfl (by have:=zCb hq1;simp;omega) ?_);refine ag (rl K (zP ?_));exact ⟨rfl,⟨rfl,rfl,rfl,by rw [if_pos hneg];rfl,trivial⟩,E0,hB1,hd⟩
   · have hneg:¬ q<0:=of_decide_eq_false hc;clear hc;refine zm (zP ?_);exact ⟨rfl,⟨rfl,rfl,rfl,by rw [if_neg hneg];rfl,trivial⟩,E0,hB1,hd⟩
 · clear E0 hB1 hd hn;rintro ρ2 w2 ⟨hk,E0,hB1,hd⟩;refine wpe_k _ hk ?_;clear hk ρ2;refine zA (rj fun K=>K1 (zJ zGS rfl (K1 (zI zAn rfl hB1 rfl ?_))));obtain ⟨dp,dl,dc,rfl,hdl⟩:=hd.form;refine K1 (zG zX rfl (K8 rfl (rm [1,3,14] K ?_)));refine K0 rfl ?_ ?_<;>intro hc
   · have hd1:q.den≠1:=fun e=>by
      have h1:dl=0:=hdl.2 (if_pos e);have:=of_decide_eq_true hc;omega
     clear hc;rw [if_neg hd1] at hd;refine rI fun K=>K1 (zJ zGS rfl (K1 (zI zAn rfl hB1 rfl (K1 (j0 E0 hb150 (zLQ hd hq2) fun vi w2 E0 hr => ?_)))));subst hr;refine K1 (zIW (a:=[47]) rfl rfl (by have:=zCb hq2;simp;omega) ?_);refine K1 (zIW rfl rfl (by have:=zCb hq1;have:=zCb hq2;simp;split<;>simp<;>omega) ?_);refine ag (rs [1,3] K ?_);refine rJ fun K=>ag (rm [1,2] K ?_);refine zB (zQ ?_)
     first
     | exact ⟨rfl,_,zg rfl rfl,E0,by unfold textS;rw [if_neg hd1];rfl⟩
     | exact ⟨rfl,_,zg rfl rfl,E0,by unfold textS;rw [if_pos hd1,List.append_nil];rfl⟩
   · have hd1:q.den=1:=by
      have h1:dl=0:=by have:=of_decide_eq_false hc;omega
      have h2:=hdl.1 h1;have h3:=q.den_pos;split at h2
      · assumption
      · omega
     clear hc;refine sk (rJ fun K=>ag (rm [1,2] K ?_));refine zB (zQ ?_)
     first
     | exact ⟨rfl,_,zg rfl rfl,E0,by unfold textS;rw [if_neg hd1];rfl⟩
     | exact ⟨rfl,_,zg rfl rfl,E0,by unfold textS;rw [if_pos hd1,List.append_nil];rfl⟩
variable {i:Nat} {p q:Poly} {u:Value} {x y:Rat}
theorem zBD:prog.underlying 48=some (.slice 2):=by kernel_rfl
theorem zl:zBA prog 48 2 1:=by unfold zBA;exact ⟨by kernel_rfl,by kernel_rfl⟩
theorem info2':(prog.info? 2).map (fun i=>(i.zero,i.size))=some (some (.int .i64 0),1):=by kernel_rfl
theorem zBS:Plain prog 2:=by unfold Plain;exact ⟨by kernel_rfl,by kernel_rfl⟩
theorem under41:prog.underlying 41=some (.slice 54):=by kernel_rfl
theorem info54':(prog.info? 54).map (fun i=>(i.zero,i.size))=some (some (.agg #[S [],S [],S [],S []]),4):=by kernel_rfl
def intL (l:List Int):Poly:=l.map fun n=>((n:Int):Rat)
theorem intL_take {l:List Int} (h:i<l.length):intL (l.take (i+1))=intL (l.take i)++[((l.getD i 0:Int):Rat)]:=by
 unfold intL;rw [List.take_succ_eq_append_getElem h,List.map_append,List.getD_eq_getElem?_getD,List.getElem?_eq_getElem h];rfl
theorem zJR:rcmpI x y=0↔x=y:=by
 constructor
 · intro h;exact Classical.byContradiction fun e=>zMw e h
 · intro h;subst h;unfold rcmpI;rw [if_neg (by grind),if_pos rfl]
theorem zKL {l:List Int} (hB:Blk w b 2 (l.map fun n => .int .i64 n)) (hll:l.length<4096) (hl:∀ n∈l,-9223372036854775808≤n∧n≤9223372036854775807):Ret prog 63 #[.slice (some ⟨b,0,none⟩) l.length l.length] w (fun r w'=>IsOwn w.heap.size w' r (intL l)):=by
 have E0:Ext w w:=Ext.refl w;refine J0 20 func63 rfl (rj fun K=>ag (rm [0] K ?_));refine rj fun K=>ag (rm [0,3] K ?_);refine zA (rj fun K=>ag (rm [0,3,4] K ?_));refine zD (ze (X:=Nat) (fun i ρ w'=>∃ vo,Keep ρ [(0,.slice (some ⟨b,0,none⟩) l.length l.length),(3,vo),(4,.int .i64 (i:Int))]∧i≤l.length∧Ext w w'∧AccP w.heap.size w' vo (intL (l.take i))) (fun i=>l.length-i) 0 ⟨_,(kp rfl),Nat.zero_le _,E0,AccP.nil⟩ ?_);clear E0;rintro i ρ1 w1 ⟨vo,hk,hil,E0,hA⟩;refine wpe_k _ hk ?_;clear hk ρ1;refine zA (rJ fun K=>mv (K1 (zG zl rfl (K8 rfl (rm [0,3,4,8] K ?_)))));refine K0 rfl ?_ ?_<;>intro hc
 · have hi:i<l.length:=t_lt hc;clear hc;refine sk (zA (zD (rI fun K=>mv (mv (K1 (zE zl rfl rfl (by omega) (by omega) ?_))))));have hbd:=hl (l.getD i 0) (by rw [List.getD_eq_getElem?_getD,List.getElem?_eq_getElem hi];exact List.getElem_mem hi);refine K1 (zI (v := .int .i64 (l.getD i 0)) zBS rfl (hB.ext E0) (by rw [Int.toNat_natCast,Nat.zero_add,Nat.mul_one,List.getElem?_map,List.getD_eq_getElem?_getD,List.getElem?_eq_getElem hi];rfl) ?_);refine K1 (j1 E0 hA.ext hb38 (zDO hbd.1 hbd.2) fun v16 w2 E0 hA N16 => ?_);obtain ⟨n16,d16,rfl,hn16,hd16⟩:=N16;have N16:IsNum _ (.agg #[.bool (decide (((l.getD i 0:Int):Rat)<0)),n16,d16]) ((l.getD i 0:Int):Rat):=⟨_,_,rfl,hn16,hd16⟩;clear hn16 hd16;refine K1 (zc (cs:=[.bool (decide (((l.getD i 0:Int):Rat)<0)),n16,d16]) zAb info37' (by decide) (by decide) (by kernel_rfl) fun sb w10 hb hE hBb hs => ?_);replace E0:=E0.trans hE;replace hA:=hA.ext hE;replace N16:=N16.ext hE;clear hE hb hs;refine K1 (zFI hA rfl hBb N16 (by unfold intL;simp;omega) E0.size fun v18 w11 hX hA2 => ?_);replace E0:=hX.ext (Nat.le_refl _) E0;clear hA hX hBb N16;refine ag (rl K (zS (zN (K5 [0,3,4] ?_))));refine rI fun K=>K1 (za (b:=1) (i+1) rfl rfl rfl (by omega) (ag (rl K (zP ?_))));exact ⟨rfl,i+1,⟨_,(kp rfl),by omega,E0,by rw [intL_take hi];exact hA2⟩,by omega⟩
 · obtain rfl:i=l.length:=by have:=f_lt hc;omega
   clear hc;rw [List.take_length] at hA;refine zV (zv (zi (zL (zN (rJ fun K=>ag (rm [0,2,4] K ?_))))));refine zB (zQ ?_);exact ⟨rfl,_,zg rfl rfl,E0,hA.own (by unfold intL;simp;omega)⟩
theorem zNx (hp:zO w u p) (hq:zO w v q) (hr:p.length=q.length→∀ i,i<p.length→rroom (p.getD i 0) (q.getD i 0)=true):Ret prog 21 #[u,v] w (fun r _=>r = .bool (decide (p=q))):=by
 obtain ⟨pp,pc,rfl,hpc,hpP,hpl⟩:=hp;obtain ⟨qp,qc,rfl,hqc,hqP,hql⟩:=hq;have E0:Ext w w:=Ext.refl w;refine J0 27 func21 rfl (rj fun K=>ag (rm [0,1] K ?_));refine zA (rJ fun K=>K1 (zG zAB rfl (mv (K1 (zG zAB rfl (K8 rfl (rm [0,1,10] K ?_)))))));refine K0 rfl ?_ ?_<;>intro hc
 · have hne:p.length≠q.length:=by have:=bne_iff_ne.1 hc;omega
   clear hc;refine rj fun K=>ag (rm [0,1,4] K ?_);exact zB (zU (en rfl E0 (congrArg Value.bool (decide_eq_false (fun e=>hne (by rw [e]))).symm)))
 · have hle:p.length=q.length:=by have:=bne_eq_false_iff_eq.1 hc;omega
   clear hc;refine sk (zA (rj fun K=>ag (rm [0,1,5] K ?_)));refine zD (ze (X:=Nat) (fun i ρ w'=>Keep ρ [(0,.slice pp p.length pc),(1,.slice qp q.length qc),(5,.int .i64 (i:Int))]∧i≤p.length∧Ext w w'∧∀ j,j<i→p.getD j 0=q.getD j 0) (fun i=>p.length-i) 0 ⟨(kp rfl),Nat.zero_le _,E0,fun j hj=>absurd hj (by omega)⟩ ?_);clear E0;rintro i ρ1 w1 ⟨hk,hil,E0,heq⟩;refine wpe_k _ hk ?_;clear hk ρ1;refine zA (rJ fun K=>mv (K1 (zG zAB rfl (K8 rfl (rm [0,1,5,14] K ?_)))));refine K0 rfl ?_ ?_<;>intro hc
   · have hi:i<p.length:=t_lt hc;clear hc;refine sk (zA (zD (zA ?_)));have hpP1:=hpP.ext E0;have hqP1:=hqP.ext E0
     refine zAY [([(0,none)],none),([(5,none)],none),([(17,some 1),(18,some 0)],none),([(19,some 0)],none),([(1,none)],none),([(5,none)],none),([(21,some 1),(22,some 0)],none),([(23,some 0)],none),([(20,some 4),(24,some 0)],none),([(25,some 0)],none)] mixed (by kernel_rfl) (by kernel_rfl) (by kernel_rfl) fun K hK=>dvp (fun σ wx hE hk=>zC ⟨Ext.refl _,hk.1⟩) (dvp (fun σ wx hE hk=>zC ⟨Ext.refl _,hk.1⟩) (dcp (fun v _=>v = .pointer (pp.map fun a=>a.add (3*i))) (fun _ _ _ _ _ h=>h) (fun σ wx hE hk=>zAL (hpP1.ext hE) hk.1 hk.2.1 hi ⟨Ext.refl _,rfl⟩) (dcp (fun v w'=>IsNum w' v (p.getD i 0)) (fun _ _ _ _ hx h=>h.ext hx.toExt) (fun σ wx hE hk=>zAS (hpP1.ext hE) hi hk.1 fun v h=>⟨Ext.refl _,h⟩) (dvp (fun σ wx hE hk=>zC ⟨Ext.refl _,hk.1⟩) (dvp (fun σ wx hE hk=>zC ⟨Ext.refl _,hk.1⟩) (dcp (fun v _=>v = .pointer (qp.map fun a=>a.add (3*i))) (fun _ _ _ _ _ h=>h) (fun σ wx hE hk=>zAL (hqP1.ext hE) hk.1 hk.2.1 (by omega) ⟨Ext.refl _,rfl⟩) (dcp (fun v w'=>IsNum w' v (q.getD i 0)) (fun _ _ _ _ hx h=>h.ext hx.toExt) (fun σ wx hE hk=>zAS (hqP1.ext hE) (by omega) hk.1 fun v h=>⟨Ext.refl _,h⟩) (dvp (fun σ wx hE hk=>zH hb73 (CallK.of_ret (zEH hk.1 hk.2.1 (hr hle i hi)) fun v w2 hX hr=>⟨hX,hr⟩) rfl) (dvp (fun σ wx hE hk=>zF hk.1 rfl rfl ⟨Ext.refl _,rfl⟩) (zBW (hK _ fun wq hE => ?_)))))))))))
     rintro _ rfl _ rfl v19 N19 v20 N20 _ rfl _ rfl v23 N23 v24 N24 _ rfl _ rfl;refine zn ?_;replace E0:=E0.trans hE;clear hE;refine zN (K5 [0,1,5,26] ?_);refine K0 rfl ?_ ?_<;>intro hc
     · have he:p.getD i 0≠q.getD i 0:=fun e=>(bne_iff_ne.1 hc) (zJR.2 e);clear hc;refine rj fun K=>ag (rm [0,1,4,5] K ?_);exact zB (zT (zU (zAG (zT (zU (en rfl E0 (congrArg Value.bool (decide_eq_false (fun e=>he (by rw [e]))).symm)))))))
     · have he:p.getD i 0=q.getD i 0:=zJR.1 (bne_eq_false_iff_eq.1 hc);clear hc;refine zm (zS (zN (rI fun K=>K1 (za (b:=1) (i+1) rfl rfl rfl (by omega) (ag (rl K (zP ?_)))))));exact ⟨rfl,i+1,⟨(kp rfl),by omega,E0,fun j hj=>by by_cases e:j=i;(rw [e];exact he);exact heq j (by omega)⟩,by omega⟩
   · obtain rfl:i=p.length:=by have:=f_lt hc;omega
     clear hc;refine zV (zv (zi (zL (zN (rj fun K=>ag (rm [0,1,4,5] K ?_))))));refine zB (zQ ?_);exact ⟨rfl,_,zg rfl rfl,E0,congrArg Value.bool (decide_eq_true (List.ext_getElem hle fun j h1 h2=>by have:=heq j h1;rwa [List.getD_eq_getElem?_getD,List.getD_eq_getElem?_getD,List.getElem?_eq_getElem h1,List.getElem?_eq_getElem h2] at this)).symm⟩
end Go.Proofs.YtjiendlfobjanaaGreatDoor
namespace Go.Proofs.YtjiendlfobjanaaGreatDoor
open Go
end Go.Proofs.YtjiendlfobjanaaGreatDoor
namespace Go.Proofs.YtjiendlfobjanaaGreatDoor
open Go Go.RowKit Go.Proofs Tryz Go.Shelf Go.Sort
variable {af:Array Edge} {g:Option (Nat×Bool)} {pos:String} {r:Option Nat} {ty:TypeId} {w:World} {σ:Operand→Value}
section laws
variable {K:Value→World→Prop} {d:Option Tmp}
end laws
end Go.Proofs.YtjiendlfobjanaaGreatDoor
namespace Go.Proofs.YtjiendlfobjanaaGreatDoor
open Go Go.RowKit Go.Proofs Tryz
set_option maxRecDepth 10000
set_option maxHeartbeats 2000000
attribute [local irreducible] Runs WPE CallK Ret
end Go.Proofs.YtjiendlfobjanaaGreatDoor
namespace Go.Proofs.YtjiendlfobjanaaGreatDoor
open Go Go.RowKit Go.Proofs Tryz
set_option maxRecDepth 10000
set_option maxHeartbeats 2000000
variable {b:Nat} {w:World}
def aT:BandT:=⟨[48],[49],[51,47,52],[49]⟩
theorem a1:zMe 3=some ([15,15,6,1],0):=by decide +kernel
theorem a2:zEb [15,15,6,1]=some ([1/6,12/25,5/6],0):=by decide +kernel
theorem a3:zOx (intL [-1,0,1])=some ([],180):=by decide +kernel
theorem a4:zOJ (intL [1]) (intL [1,1]) [aT] 5=some (0,1,0):=by decide +kernel
theorem a5:intL [15,15,6,1]=[15,15,6,1]:=by decide +kernel
theorem d10 (n:Nat) (h:n<10):Lib.decDigits n=[UInt8.ofNat (48+n)]:=by unfold Lib.decDigits;rw [dif_pos h]
theorem a6:textS (12/25)=[49,50,47,50,53]:=by
 have e1:(12/25:Rat).num.natAbs=12:=by decide +kernel
 have e2:(12/25:Rat).den=25:=by decide +kernel
 have e3:¬ (12/25:Rat)<0:=by decide +kernel
 unfold textS;rw [e1,e2,if_neg e3,if_neg (by decide)];unfold Lib.decDigits;rw [dif_neg (by decide),dif_neg (by decide),d10 _ (by decide),d10 _ (by decide)];rfl
theorem a7:textS 1=[49]:=by
 have e1:(1:Rat).num.natAbs=1:=by decide +kernel
 have e2:(1:Rat).den=1:=by decide +kernel
 have e3:¬ (1:Rat)<0:=by decide +kernel
 unfold textS;rw [e1,e2,if_neg e3,if_pos rfl,d10 _ (by decide)];rfl
theorem a8:∀ i,i<4→rroom (([15,15,6,1]:Poly).getD i 0) (([15,15,6,1]:Poly).getD i 0)=true:=by decide +kernel
theorem mask1 {t:BandT} (hB:Blk w b 54 (zJX t)):zJZ w (.slice (some ⟨b,0,none⟩) 1 1) [t] :=
 ⟨_,1,rfl,.inr ⟨b,0,_,rfl,hB,by simp [zJX],fun i t' h=>by
  have:i=0:=by have:=(List.getElem?_eq_some_iff.1 h).1;simp at this;omega
  subst this;simp at h;subst h;rfl⟩⟩
theorem aLen:∀ (i:Nat) (t:BandT),([aT]:List BandT)[i]? = some t→t.lo.length<1000000000∧t.hi.length<1000000000∧t.least.length<1000000000∧t.most.length<1000000000:=fun i t ht=>by
 have h0:i=0:=by have:=(List.getElem?_eq_some_iff.1 ht).1;simp at this;omega
 subst h0;simp at ht;subst ht;decide
end Go.Proofs.YtjiendlfobjanaaGreatDoor
namespace Go.Proofs.YtjiendlfobjanaaGreatDoor
open Go Go.RowKit Go.Proofs Tryz
set_option maxRecDepth 10000
set_option maxHeartbeats 2000000
attribute [local irreducible] Runs WPE CallK Ret
variable {w:World}
theorem zGY:Ret prog 14 #[] w (fun r _=>r = .bool true):=by
 refine J0 77 func14 rfl (rj fun K=>ag (rm [] K ?_));refine rj fun K=>K1 (j0 E0 hb32 (Bessel_ok a1) fun v11 w2 E0 hr => ?_);obtain ⟨u12,rfl,N12⟩:=hr;replace N12:zO _ u12 [15,15,6,1]:=N12.poly;refine mv (xt rfl (xt rfl (ag (ag (rm [1,2] K ?_)))));refine rJ fun K=>K1 (j1 E0 N12.ext hb16 (zIk N12 a2) fun v16 w2 E0 N12 hr => ?_);obtain ⟨u17,rfl,N17⟩:=hr;replace N17:zO _ u17 [1/6,12/25,5/6]:=N17.poly;refine mv (xt rfl (xt rfl (ag (ag (rm [1,2,3,4] K ?_)))));refine rj fun K => ?_;refine K1 (zc (cs:=[.int .i64 (-1),.int .i64 0,.int .i64 1]) zBD info2' (by decide) (by decide) (by kernel_rfl) fun x1 w10 hb hE hBx1 hs => ?_);replace E0:=E0.trans hE;replace N12:=N12.ext hE;replace N17:=N17.ext hE;clear hE hb hs;refine K1 (j2 E0 N12.ext N17.ext hb63 (zKL (l:=[-1,0,1]) hBx1 (by decide) (by decide)) fun v21 w2 E0 N12 N17 N21 => ?_);clear hBx1;have N21:=N21.poly;refine K1 (j2 E0 N12.ext N17.ext hb17 (Ladder_ok N21 a3) fun v22 w2 E0 N12 N17 hr => ?_);obtain ⟨u23,rfl,-⟩:=hr
 try clear N21
 refine mv (xt rfl (xt rfl (ag (ag (rm [1,2,3,4,6] K ?_)))));refine rj fun K => ?_;refine K1 (zc (cs:=[.int .i64 1]) zBD info2' (by decide) (by decide) (by kernel_rfl) fun x2 w10 hb hE hBx2 hs => ?_);replace E0:=E0.trans hE;replace N12:=N12.ext hE;replace N17:=N17.ext hE;clear hE hb hs;refine K1 (j2 E0 N12.ext N17.ext hb63 (zKL (l:=[1]) hBx2 (by decide) (by decide)) fun v27 w2 E0 N12 N17 N27 => ?_);clear hBx2;have N27:=N27.poly;refine K1 (zc (cs:=[.int .i64 1,.int .i64 1]) zBD info2' (by decide) (by decide) (by kernel_rfl) fun x3 w10 hb hE hBx3 hs => ?_);replace E0:=E0.trans hE;replace N12:=N12.ext hE;replace N17:=N17.ext hE;replace N27:=N27.ext hE;clear hE hb hs;refine K1 (j3 E0 N12.ext N17.ext N27.ext hb63 (zKL (l:=[1,1]) hBx3 (by decide) (by decide)) fun v29 w2 E0 N12 N17 N27 N29 => ?_);clear hBx3;have N29:=N29.poly;refine K1 (zf (cs:=(zJX aT).toArray) (by kernel_rfl) ?_);refine K1 (zc (cs:=zJX aT) under41 info54' (by decide) (by decide) (by kernel_rfl) fun xm w10 hb hE hBm hs => ?_);replace E0:=E0.trans hE;replace N12:=N12.ext hE;replace N17:=N17.ext hE;replace N27:=N27.ext hE;replace N29:=N29.ext hE;clear hE hb hs;refine K1 (j2 E0 N12.ext N17.ext hb29 (Meets_ok (fuel:=5) N27 N29 (mask1 hBm) aLen (by decide) a4) fun v32 w2 E0 N12 N17 hr => ?_);obtain ⟨u34,rfl,N34⟩:=hr;clear N27 N29 hBm;refine mv (xt rfl (xt rfl (xt rfl ?_)))
 refine K1 (zd zAa fun gb w7 hb hE hBg hs => ?_);have hgg:w.heap.size≤gb:=by rw [hb];exact E0.size
 have hX:Ext _ _:=hE;replace E0:=E0.trans hE;replace N34:=N34.ext hE;clear hE;refine ag (K1 (zK rfl N34 (Cell3.of hBg rfl) fun _ w9 hU hNA => ?_));replace E0:=E0.upd hU hgg;replace N12:=N12.updN hX hU hBg (by omega);replace N17:=N17.updN hX hU hBg (by omega);clear hU hBg N34 hX hb hs;refine ag (rm [1,2,3,4,6,7,8,9] K ?_);refine rJ fun K=>K8 rfl (mv (K7 (K2 (zF rfl rfl rfl (pk rfl (mv (K7 (K2 (zF rfl rfl rfl (pk rfl (mv (K7 (K2 (zF rfl rfl rfl (pk rfl ?_)))))))))))))));refine mv (K7 ?_);refine K2 (zc (cs:=[.int .i64 15,.int .i64 15,.int .i64 6,.int .i64 1]) zBD info2' (by decide) (by decide) (by kernel_rfl) fun x4 w10 hb hE hBx4 hs => ?_);replace E0:=E0.trans hE;replace N12:=N12.ext hE;replace N17:=N17.ext hE;replace hNA:=hNA.ext hE;clear hE hb hs;refine K2 (j3 E0 N12.ext N17.ext hNA.ext hb63 (zKL (l:=[15,15,6,1]) hBx4 (by decide) (by decide)) fun v53 w2 E0 N12 N17 hNA N53 => ?_);clear hBx4;have N53:=N53.poly;rw [a5] at N53;refine K2 (j3 E0 N12.ext N17.ext hNA.ext hb21 ((zNx N12 N53 (fun _ i hi=>a8 i hi)).mono fun _ _ _ h=>h.trans (congrArg Value.bool (decide_eq_true rfl))) fun vi w2 E0 N12 N17 hNA hr => ?_);subst hr;refine pk rfl (mv (K7 ?_));obtain ⟨qp,qc,rfl,hqc,hqP,hql⟩:=N17
 refine K2 (zG zAB rfl (K2 (zF rfl rfl rfl (pk rfl (mv (K7 (K2 (zAL (ix:=1) hqP rfl rfl (by decide) (K2 (zAS (i:=1) hqP (by decide) rfl fun v64 N64 => ?_))))))))));replace N64:IsNum _ v64 (12/25):=N64;refine K2 (j1 E0 hNA.ext hb64 ((zJL N64 (by decide +kernel) (by decide +kernel)).mono fun _ _ _ h=>h.trans (congrArg S a6)) fun vi w2 E0 hNA hr => ?_);subst hr;refine K2 (zAT rfl rfl (pk rfl (mv (K7 (K2 (zF rfl rfl rfl (pk rfl (mv (K2 (zR rfl hNA fun v73 N73=>K2 (j0 E0 hb64 ((zJL N73 (by decide +kernel) (by decide +kernel)).mono fun _ _ _ h=>h.trans (congrArg S a7)) fun vi w2 E0 hr => ?_)))))))))));subst hr;refine K2 (zAT rfl rfl (pk rfl (ag (rm [0] K ?_))));exact zB (en rfl E0 rfl)
end Go.Proofs.YtjiendlfobjanaaGreatDoor
namespace Go.Proofs.YtjiendlfobjanaaGreatDoor.R
open Go Go.RowKit Go.Proofs Tryz
variable {B N0 X Y b c ca d e i j k l2 n o s:Nat} {O ds xs ys:List Nat} {T:TypeId} {cs:List Value} {fd:Nat→Nat→Nat→Nat×Nat} {pa:Option Addr} {v:Value} {w w':World}
def nat30:List Nat→Nat
 | []=>0
 | d :: ds=>d+1073741824*nat30 ds
def Dig (ds:List Nat):Prop:=∀ d∈ds,d<1073741824
def Norm (ds:List Nat):Prop:=Dig ds∧ds.getLast?≠some 0
def dv (ds:List Nat):List Value:=ds.map fun (d:Nat) => .int .i64 (d:Int)
def Rd (w:World) (p:Option Addr) (ds:List Nat):Prop :=
 ∀ i,i<ds.length→∃ b o cs,p=some ⟨b,o,none⟩∧Blk w b 2 cs∧cs[o+i]? = some (.int .i64 (ds.getD i 0:Nat))
def IsN (w:World) (v:Value) (n:Nat):Prop:=∃ p ds cap,v = .slice p ds.length cap∧ds.length≤cap∧Rd w p ds∧Norm ds∧nat30 ds=n
theorem Rd.ext {p:Option Addr} (h:Rd w p ds) (hx:Ext w w'):Rd w' p ds:=fun i hi=>by
 obtain ⟨b,o,cs,h1,h2,h3⟩:=h i hi;exact ⟨b,o,cs,h1,h2.ext hx,h3⟩
theorem Rd.upd {p:Option Addr} (h:Rd w p ds) (hu:Upd b w w') (hb:Blk w b T cs) (hT:T≠2):Rd w' p ds:=fun i hi=>by
 obtain ⟨c,o,cs',h1,h2,h3⟩:=h i hi;exact ⟨c,o,cs',h1,h2.upd hu (fun e=>by subst e;exact hT (hb.inj h2).1),h3⟩
theorem Rd.upd' {p:Option Addr} (h:Rd w p ds) (hu:Upd b w w') (hp:∀ a,p=some a→0<ds.length→a.block≠b):Rd w' p ds:=fun i hi=>by
 obtain ⟨c,o,cs',h1,h2,h3⟩:=h i hi;exact ⟨c,o,cs',h1,h2.upd hu (hp _ h1 (by omega)),h3⟩
theorem Rd.ne {p:Option Addr} (h:Rd w p ds) (hb:w.heap.size≤b):∀ a,p=some a→0<ds.length→a.block≠b:=fun a ha hd=>by
 obtain ⟨c,o,cs',h1,h2,h3⟩:=h 0 hd;rw [ha] at h1;cases h1;have:=h2.lt;simp only;omega
theorem IsN.ext (h:IsN w v n) (hx:Ext w w'):IsN w' v n:=by
 obtain ⟨p,ds,cap,h1,h2,h3,h4,h5⟩:=h;exact ⟨p,ds,cap,h1,h2,h3.ext hx,h4,h5⟩
theorem IsN.upd (h:IsN w v n) (hu:Upd b w w') (hb:Blk w b T cs) (hT:T≠2):IsN w' v n:=by
 obtain ⟨p,ds,cap,h1,h2,h3,h4,h5⟩:=h;exact ⟨p,ds,cap,h1,h2,h3.upd hu hb hT,h4,h5⟩
def NoR (S:List Nat) (w:World):Prop:=∀ b∈S,∃ T cs,Blk w b T cs∧T≠2
theorem NoR.ext {S:List Nat} (h:NoR S w) (hx:ExtS S w w'):NoR S w':=fun b hb=>by
 obtain ⟨T,cs,h1,h2⟩:=h b hb;obtain ⟨cs',h3⟩:=hx.kind b T cs h1;exact ⟨T,cs',h3,h2⟩
theorem Rd.extS {S:List Nat} {p:Option Addr} (h:Rd w p ds) (hx:ExtS S w w') (hS:NoR S w):Rd w' p ds:=fun i hi=>by
 obtain ⟨c,o,cs',h1,h2,h3⟩:=h i hi;refine ⟨c,o,cs',h1,h2.extS hx (fun hc => ?_),h3⟩;obtain ⟨T,cs,h4,h5⟩:=hS c hc;exact h5 (h4.inj h2).1
theorem IsN.extS {S:List Nat} (h:IsN w v n) (hx:ExtS S w w') (hS:NoR S w):IsN w' v n:=by
 obtain ⟨p,ds,cap,h1,h2,h3,h4,h5⟩:=h;exact ⟨p,ds,cap,h1,h2,h3.extS hx hS,h4,h5⟩
theorem nat30_one (d:Nat):nat30 [d]=d:=by
 show d+1073741824*0=d;rw [Nat.mul_zero,Nat.add_zero]
theorem zBo:∀ (a b:List Nat),nat30 (a++b)=nat30 a+1073741824^a.length*nat30 b
 | [],b=>by simp [nat30]
 | x :: a,b=>by
  have:=zBo a b;simp only [List.cons_append,nat30,List.length_cons,Nat.pow_succ,this];rw [Nat.mul_add,← Nat.add_assoc];congr 1;rw [← Nat.mul_assoc,Nat.mul_comm 1073741824]
theorem zCe:∀ (ds:List Nat),Dig ds→nat30 ds<1073741824^ds.length
 | [],_=>by simp [nat30]
 | d :: ds,h=>by
  have h1:=zCe ds fun x hx=>h x (by simp [hx]);have h2:=h d (by simp);simp only [nat30,List.length_cons,Nat.pow_succ];have:nat30 ds+1≤1073741824^ds.length:=h1;have:=Nat.mul_le_mul_left 1073741824 this;rw [Nat.mul_comm (_^_)];omega
theorem Dig.take (h:Dig ds) (k:Nat):Dig (ds.take k):=fun d hd=>h d (List.mem_of_mem_take hd)
theorem Dig.drop (h:Dig ds) (k:Nat):Dig (ds.drop k):=fun d hd=>h d (List.mem_of_mem_drop hd)
theorem Dig.getD (h:Dig ds) (k:Nat):ds.getD k 0<1073741824:=by
 by_cases hk:k<ds.length
 · simp only [List.getD_eq_getElem?_getD,List.getElem?_eq_getElem hk,Option.getD_some];exact h _ (List.getElem_mem hk)
 · simp [List.getElem?_eq_none (Nat.le_of_not_lt hk)]
theorem zCI (h:k<ds.length):ds.take (k+1)=ds.take k++[ds.getD k 0]:=by
 rw [List.take_succ_eq_append_getElem h];simp [h]
theorem zCd (h:k<ds.length):nat30 (ds.take (k+1))=nat30 (ds.take k)+1073741824^k*ds.getD k 0:=by
 rw [zCI h,zBo];simp [nat30,Nat.min_eq_left (Nat.le_of_lt h)]
theorem zBn (ds:List Nat) (k:Nat):nat30 ds=nat30 (ds.take k)+1073741824^(min k ds.length)*nat30 (ds.drop k):=by
 conv=>lhs;rw [← List.take_append_drop k ds,zBo]
 simp
theorem Norm.lo (h:Norm ds) (h0:ds≠[]):1073741824^(ds.length-1)≤nat30 ds:=by
 obtain ⟨_,hl⟩:=h;rw [← List.dropLast_concat_getLast h0,zBo];have hne:ds.getLast h0≠0:=fun e=>hl (by rw [List.getLast?_eq_some_getLast h0,e]);have:1≤nat30 [ds.getLast h0]:=by simp [nat30];omega
 have:=Nat.mul_le_mul_left (1073741824^ds.dropLast.length) this;simp at this ⊢;omega
theorem Norm.zero (h:Norm ds):nat30 ds=0↔ds=[]:=by
 constructor
 · intro e;by_cases h0:ds=[]
   · exact h0
   · have:=h.lo h0;have:0<1073741824^(ds.length-1):=Nat.pow_pos (by decide);omega
 · rintro rfl;rfl
theorem Norm.len_lt {a b:List Nat} (ha:Dig a) (hb:Norm b) (h:a.length<b.length):nat30 a<nat30 b:=by
 have h1:=zCe a ha;have h2:=hb.lo (by rintro rfl;simp at h);have:1073741824^a.length≤1073741824^(b.length-1):=Nat.pow_le_pow_right (by decide) (by omega);omega
theorem zMK:∀ (a b:List Nat),Dig a→Dig b→a.length=b.length→nat30 a=nat30 b→a=b
 | [],[],_,_,_,_=>rfl
 | x :: a,y :: b,ha,hb,hl,h=>by
  have hx:=ha x (by simp);have hy:=hb y (by simp);simp only [nat30] at h;have h1:x=y:=by omega
  have h2:nat30 a=nat30 b:=by omega
  rw [h1,zMK a b (fun d hd=>ha d (by simp [hd])) (fun d hd=>hb d (by simp [hd])) (by simpa using hl) h2]
theorem Norm.inj {a b:List Nat} (ha:Norm a) (hb:Norm b) (h:nat30 a=nat30 b):a=b:=by
 rcases Nat.lt_trichotomy a.length b.length with hl | hl | hl
 · have:=Norm.len_lt ha.1 hb hl;omega
 · exact zMK a b ha.1 hb.1 hl h
 · have:=Norm.len_lt hb.1 ha hl;omega
theorem Norm.len_le (h:Norm ds) {L:Nat} (hL:(nat30 ds).log2<L):ds.length≤L/30+1:=by
 by_cases h0:ds=[]
 · simp [h0]
 · have h1:=h.lo h0;have hne:nat30 ds≠0:=fun e=>h0 (h.zero.1 e);have h2:=(Nat.log2_lt hne).1 hL;have h3:(1073741824:Nat)=2^30:=by decide
   rw [h3,← Nat.pow_mul] at h1;have h4:2^(30*(ds.length-1))<2^L:=Nat.lt_of_le_of_lt h1 h2;have h5:=(Nat.pow_lt_pow_iff_right (by decide:1<2)).1 h4;omega
theorem zAF (ds:List Nat):(dv ds).length=ds.length:=by simp [dv]
theorem zPK (ds:List Nat) (i d:Nat):(dv ds).set i (.int .i64 (d:Int))=dv (ds.set i d):=by simp [dv,List.map_set]
theorem zCW (ds:List Nat) (i:Nat) (h:i<ds.length):(dv ds)[i]? = some (.int .i64 (ds.getD i 0:Nat)):=by simp [dv,h]
theorem zAk (n:Nat):(List.replicate n [Value.int .i64 0]).flatten=dv (List.replicate n 0):=by
 simp only [dv,List.map_replicate]
 induction n with
 | zero=>rfl
 | succ n ih=>simp only [List.replicate_succ,List.flatten_cons,ih];rfl
theorem zAj {l:List Nat} (h:Blk w b 2 (zBt (dv l) o [.int .i64 (d:Int)])) (ho:o=i):Blk w b 2 (dv (l.set i d)):=by
 subst ho;rw [← zPK];exact h
theorem zMW (h:Norm ds):nat30 ds=1↔ds.length=1∧ds.getD 0 0=1:=by
 constructor
 · intro e;have h1:Norm [1]:=⟨by intro d hd;simp at hd;omega,by simp⟩;have:=h.inj h1 (by rw [e];rfl);subst this;exact ⟨rfl,rfl⟩
 · rintro ⟨h1,h2⟩
   match ds,h1 with
   | [d],_=>simp at h2;subst h2;rfl
theorem zCv (h:k<ds.length) (h0:ds.getD k 0=0):nat30 (ds.take (k+1))=nat30 (ds.take k):=by
 rw [zCd h,h0];simp
theorem zJF (hd:Dig ds) (h:k<ds.length) (h0:ds.getD k 0≠0):Norm (ds.take (k+1)):=by
 refine ⟨hd.take _,?_⟩;rw [zCI h,List.getLast?_append];simpa using h0
def zY (fd:Nat→Nat→Nat→Nat×Nat) (xs ys:List Nat):Nat→List Nat×Nat
 | 0=>([],0)
 | i+1=>((zY fd xs ys i).1++[(fd (xs.getD i 0) (ys.getD i 0) (zY fd xs ys i).2).1],(fd (xs.getD i 0) (ys.getD i 0) (zY fd xs ys i).2).2)
theorem zAE (fd:Nat→Nat→Nat→Nat×Nat) (xs ys:List Nat):∀ i,(zY fd xs ys i).1.length=i
 | 0=>rfl
 | i+1=>by simp [zY,zAE fd xs ys i]
theorem zCw (hdx:Dig xs) (hdy:Dig ys) (h:∀ x y c,x<1073741824→y<1073741824→c≤1→(fd x y c).2≤1) (i:Nat):(zY fd xs ys i).2≤1:=by
 induction i with
 | zero=>exact Nat.zero_le _
 | succ i ih=>exact h _ _ _ (hdx.getD i) (hdy.getD i) ih
theorem Rd.of_blk (h:Blk w b 2 (dv ds)):Rd w (some ⟨b,0,none⟩) ds:=fun i hi=>⟨b,0,_,rfl,h,by rw [Nat.zero_add];exact zCW ds i hi⟩
theorem Rd.take {p:Option Addr} (h:Rd w p ds) (k:Nat):Rd w p (ds.take k):=fun i hi=>by
 have hk:i<k∧i<ds.length:=by simp at hi;omega
 obtain ⟨b,o,cs,h1,h2,h3⟩:=h i hk.2;refine ⟨b,o,cs,h1,h2,?_⟩;rw [h3];simp [hk.1]
theorem Norm.fit (h:Norm ds) (hf:Fit (nat30 ds)):ds.length≤293203100741:=h.len_le hf
def fAdd (x y c:Nat):Nat×Nat:=((x+y+c)%1073741824,(x+y+c)/1073741824)
def fSub (x y b:Nat):Nat×Nat:=((x+1073741824-y-b)%1073741824,if x<y+b then 1 else 0)
theorem zBb {fd:Nat→Nat→Nat→Nat×Nat} (h:∀ x y c,(fd x y c).1<1073741824) (xs ys:List Nat):∀ i,Dig (zY fd xs ys i).1
 | 0=>by intro d hd;simp [zY] at hd
 | i+1=>by
  intro d hd;simp only [zY,List.mem_append,List.mem_singleton] at hd;rcases hd with hd | rfl
  · exact zBb h xs ys i d hd
  · exact h _ _ _
theorem nat30_take_succ' (ds:List Nat) (k:Nat):nat30 (ds.take (k+1))=nat30 (ds.take k)+1073741824^k*ds.getD k 0:=by
 by_cases h:k<ds.length
 · exact zCd h
 · rw [List.take_of_length_le (by omega),List.take_of_length_le (by omega)];simp [List.getElem?_eq_none (Nat.le_of_not_lt h)]
theorem zDh (xs ys:List Nat):∀ i,nat30 (zY fAdd xs ys i).1+1073741824^i*(zY fAdd xs ys i).2=nat30 (xs.take i)+nat30 (ys.take i)
 | 0=>by simp [zY,nat30]
 | i+1=>by
  have ih:=zDh xs ys i;rw [nat30_take_succ' xs,nat30_take_succ' ys];simp only [zY];rw [zBo,zAE];generalize (zY fAdd xs ys i).2=c at *;generalize xs.getD i 0=x;generalize ys.getD i 0=y;simp only [fAdd,nat30,Nat.mul_zero,Nat.add_zero,Nat.pow_succ];have hdm:(x+y+c)=(x+y+c)%1073741824+1073741824*((x+y+c)/1073741824):=(Nat.mod_add_div _ _).symm;generalize (x+y+c)%1073741824=r at *;generalize (x+y+c)/1073741824=q at *;generalize 1073741824^i=B at *;grind
theorem zHx {x y:Nat} (hx:x<1073741824) (hy:y<1073741824) (hc:c≤1):(fSub x y c).1+(y+c)=x+1073741824*(fSub x y c).2:=by
 simp only [fSub];by_cases h:x<y+c
 · rw [if_pos h];omega
 · rw [if_neg h];omega
theorem zEC (x y c:Nat):(fSub x y c).2≤1:=by
 simp only [fSub];by_cases h:x<y+c
 · rw [if_pos h];omega
 · rw [if_neg h];omega
theorem zKW {R x y r q:Nat} (ih:R+Y=X+B*c) (key:r+(y+c)=x+1073741824*q):R+B*r+(Y+B*y)=X+B*x+B*(1073741824*q):=by
 have k2:B*(r+(y+c))=B*(x+1073741824*q):=by rw [key]
 simp only [Nat.mul_add] at k2;omega
theorem zGH (xs ys:List Nat) (hx:Dig xs) (hy:Dig ys) (i:Nat):nat30 (zY fSub xs ys i).1+nat30 (ys.take i)=nat30 (xs.take i)+1073741824^i*(zY fSub xs ys i).2:=by
 induction i with
 | zero=>simp [zY,nat30]
 | succ i ih =>
  have key:=zHx (hx.getD i) (hy.getD i) (zCw hx hy (fun x y c _ _ _=>zEC x y c) i);rw [nat30_take_succ' xs,nat30_take_succ' ys];simp only [zY];rw [zBo,zAE,Nat.pow_succ,Nat.mul_assoc];generalize fSub (xs.getD i 0) (ys.getD i 0) (zY fSub xs ys i).2=r at *;generalize (zY fSub xs ys i).2=c at *;have h:=zKW ih key;rw [nat30_one];exact h
theorem zFj (hl:ys.length≤xs.length):nat30 ((zY fAdd xs ys xs.length).1++[(zY fAdd xs ys xs.length).2])=nat30 xs+nat30 ys:=by
 have h:=zDh xs ys xs.length;rw [List.take_length,List.take_of_length_le hl] at h;rw [zBo,zAE];simpa [nat30] using h
theorem zHP {x y:Nat} (hx:x<1073741824) (hy:y<1073741824) (hc:c≤1):(fAdd x y c).2≤1:=by
 simp only [fAdd];omega
theorem zGz (hx:Dig xs) (hy:Dig ys) (hl:ys.length≤xs.length) (hle:nat30 ys≤nat30 xs):nat30 (zY fSub xs ys xs.length).1=nat30 xs-nat30 ys:=by
 have h:=zGH xs ys hx hy xs.length;rw [List.take_length,List.take_of_length_le hl] at h;have h1:=zCe _ (zBb (fd:=fSub) (fun x y c=>Nat.mod_lt _ (by decide)) xs ys xs.length);rw [zAE] at h1;have hc:=zCw hx hy (fun x y c _ _ _=>zEC x y c) xs.length;have h2:=zCe ys hy;have h3:1073741824^ys.length≤1073741824^xs.length:=Nat.pow_le_pow_right (by decide) hl;rcases (show (zY fSub xs ys xs.length).2=0∨(zY fSub xs ys xs.length).2=1 by omega) with h4 | h4
 · rw [h4] at h;omega
 · rw [h4] at h;omega
theorem zKt (hx:Dig xs) (hy:Dig ys):Dig ((zY fAdd xs ys xs.length).1++[(zY fAdd xs ys xs.length).2]):=by
 intro d hd;rw [List.mem_append,List.mem_singleton] at hd;rcases hd with hd | rfl
 · exact zBb (fun x y c=>Nat.mod_lt _ (by decide)) xs ys _ d hd
 · have:=zCw (fd:=fAdd) hx hy (fun x y c h1 h2 h3=>zHP h1 h2 h3) xs.length;omega
theorem zMZ (xs ys:List Nat):Dig ((zY fSub xs ys xs.length).1++[(zY fSub xs ys xs.length).2]):=by
 intro d hd;rw [List.mem_append,List.mem_singleton] at hd;rcases hd with hd | rfl
 · exact zBb (fun x y c=>Nat.mod_lt _ (by decide)) xs ys _ d hd
 · have:(zY fSub xs ys xs.length).2≤1:=by
    cases xs.length with
    | zero=>exact Nat.zero_le _
    | succ i=>exact zEC _ _ _
   omega
theorem Dig.of_append {a b:List Nat} (h:Dig (a++b)):Dig a:=fun d hd=>h d (List.mem_append_left _ hd)
theorem zBh (h:k<ds.length):nat30 (ds.drop k)=ds.getD k 0+1073741824*nat30 (ds.drop (k+1)):=by
 rw [List.drop_eq_getElem_cons h];simp [nat30,h]
theorem nat30_eq_of (hx:Dig xs) (hy:Dig ys) (hl:xs.length=ys.length) (hk:k<xs.length) (hd:nat30 (xs.drop (k+1))=nat30 (ys.drop (k+1))) :
 (xs.getD k 0=ys.getD k 0→nat30 (xs.drop k)=nat30 (ys.drop k))∧(xs.getD k 0<ys.getD k 0→nat30 xs<nat30 ys)∧(ys.getD k 0<xs.getD k 0→nat30 ys<nat30 xs):=by
 have e1:=zBh hk;have e2:=zBh (ds:=ys) (hl ▸ hk);have key:∀ (a b:List Nat),Dig a→Dig b→a.length=b.length→k<a.length→nat30 (a.drop k)<nat30 (b.drop k)→nat30 a<nat30 b:=by
  intro a b ha hb hl hk h;rw [zBn a k,zBn b k];have h1:=zCe _ (ha.take k);simp only [List.length_take,Nat.min_eq_left (Nat.le_of_lt hk)] at h1;rw [← hl,Nat.min_eq_left (Nat.le_of_lt hk)];generalize 1073741824^k=B at *;generalize nat30 (a.drop k)=u at *;generalize nat30 (b.drop k)=v at *;have:B*(u+1)≤B*v:=Nat.mul_le_mul_left _ h;rw [Nat.mul_add,Nat.mul_one] at this;omega
 refine ⟨fun h=>by rw [e1,e2,h,hd],fun h=>key xs ys hx hy hl hk ?_,fun h=>key ys xs hy hx hl.symm (hl ▸ hk) ?_⟩
 · rw [e1,e2,hd];omega
 · rw [e1,e2,hd];omega
theorem zIw:∀ (ds:List Nat) (k d:Nat),k<ds.length→nat30 (ds.set k d)+1073741824^k*ds.getD k 0=nat30 ds+1073741824^k*d
 | x :: ds,0,d,_=>by simp only [List.set_cons_zero,nat30,Nat.pow_zero,Nat.one_mul,List.getD_cons_zero];omega
 | x :: ds,k+1,d,h=>by
  have ih:=zIw ds k d (by simpa using h);simp only [List.set_cons_succ,nat30,List.getD_cons_succ,Nat.pow_succ];generalize 1073741824^k=B at *;generalize ds.getD k 0=e at *;have h1:1073741824*(nat30 (ds.set k d)+B*e)=1073741824*(nat30 ds+B*d):=by rw [ih]
  rw [Nat.mul_add,Nat.mul_add] at h1;have h2:B*1073741824*e=1073741824*(B*e):=by rw [Nat.mul_comm B,Nat.mul_assoc]
  have h3:B*1073741824*d=1073741824*(B*d):=by rw [Nat.mul_comm B,Nat.mul_assoc]
  rw [h2,h3];omega
theorem Dig.set (h:Dig ds) (k:Nat) (hd:d<1073741824):Dig (ds.set k d):=fun x hx=>by
 rcases List.mem_or_eq_of_mem_set hx with h1 | h1
 · exact h x h1
 · rw [h1];exact hd
theorem zBr (n:Nat):Dig (List.replicate n 0):=fun d hd=>by rw [List.mem_replicate] at hd;omega
theorem zGC:∀ n,nat30 (List.replicate n 0)=0
 | 0=>rfl
 | n+1=>by rw [List.replicate_succ,nat30,zGC n]
theorem zJu {x y c':Nat} (hlen:i+j<O.length) (h:nat30 O+1073741824^(i+j)*c=N0+1073741824^i*(x*X))
 (hs:l2+1073741824*c'=x*y+O.getD (i+j) 0+c):nat30 (O.set (i+j) l2)+1073741824^(i+(j+1))*c'=N0+1073741824^i*(x*(X+1073741824^j*y)):=by
 have h1:=zIw O (i+j) l2 hlen;rw [← Nat.add_assoc,Nat.pow_succ,Nat.mul_add,Nat.mul_add,← Nat.mul_assoc x,Nat.mul_comm x (_^j),Nat.mul_assoc (_^j),← Nat.mul_assoc (_^i) (_^j),← Nat.pow_add,Nat.mul_assoc];generalize 1073741824^(i+j)=B at *;generalize 1073741824^i*(x*X)=M at *;generalize O.getD (i+j) 0=o at *;generalize x*y=xy at *;have h2:B*(l2+1073741824*c')=B*(xy+o+c):=by rw [hs]
 simp only [Nat.mul_add] at h2;omega
theorem zIo (hlen:i+ys.length<O.length) (h:nat30 O+1073741824^(i+ys.length)*c=nat30 (xs.take i)*nat30 ys+1073741824^i*(xs.getD i 0*nat30 ys))
 (hz:∀ k,i+ys.length≤k→O.getD k 0=0):nat30 (O.set (i+ys.length) c)=nat30 (xs.take (i+1))*nat30 ys:=by
 have h1:=zIw O (i+ys.length) c hlen;rw [hz _ (Nat.le_refl _),Nat.mul_zero,Nat.add_zero] at h1;rw [h1,h,nat30_take_succ',Nat.add_mul,Nat.mul_assoc]
theorem pow64 (s:Nat):1073741824^s=2^(30*s):=by
 rw [show (1073741824:Nat)=2^30 from by decide,← Nat.pow_mul]
theorem zCM (k:Nat):1073741824^(k/30)*2^(k%30)=2^k:=by
 rw [pow64,← Nat.pow_add,Nat.div_add_mod]
theorem zJE (h:e<30):2^(30-e)*2^e=1073741824:=by
 rw [← Nat.pow_add,show 30-e+e=30 from by omega]
theorem nat30_drop_div (U:List Nat) (h:Dig U) (s:Nat):nat30 (U.drop s)=nat30 U/1073741824^s:=by
 by_cases hs:s≤U.length
 · have h1:=zBn U s;rw [Nat.min_eq_left hs] at h1;have h2:=zCe (U.take s) (h.take s);rw [List.length_take,Nat.min_eq_left hs] at h2;rw [h1,Nat.add_mul_div_left _ _ (Nat.pow_pos (by decide)),Nat.div_eq_of_lt h2,Nat.zero_add]
 · have h2:=zCe U h;have h3:1073741824^U.length≤1073741824^s:=Nat.pow_le_pow_right (by decide) (by omega);rw [List.drop_eq_nil_of_le (by omega),Nat.div_eq_of_lt (by omega)];rfl
theorem zKF {x0:Nat} (h:nat30 O*2^e+x0%2^e=nat30 xs):nat30 O=nat30 xs/2^e:=by
 have hpe:0<2^e:=Nat.pow_pos (by decide);rw [← h,Nat.mul_comm,Nat.mul_add_div hpe,Nat.div_eq_of_lt (Nat.mod_lt _ hpe),Nat.add_zero]
theorem IsN.nil (h:n=0):IsN w (.slice none 0 0) n:=⟨none,[],0,rfl,Nat.le_refl _,fun i hi=>by simp at hi,⟨fun d hd=>by simp at hd,by simp⟩,by rw [h];rfl⟩
theorem zIP (hd:Dig ds) (h:ds.length≤k/30):nat30 ds/2^k=0:=by
 have h1:=zCe ds hd;have h2:=zCM k;have h3:1073741824^ds.length≤1073741824^(k/30):=Nat.pow_le_pow_right (by decide) h;have h4:1≤2^(k%30):=Nat.pow_pos (by decide);have h5:=Nat.mul_le_mul_left (1073741824^(k/30)) h4;rw [h2] at h5;exact Nat.div_eq_of_lt (by omega)
theorem zKM:n/1073741824^(k/30)/2^(k%30)=n/2^k:=by
 rw [Nat.div_div_eq_div_mul,zCM]
theorem zMV (ha:Rd w pa ds) (hx:Norm ds) (hca:ds.length≤ca) (hs:s<ds.length) :
 ∃ xs pb cb,ds.length-s=xs.length∧Value.slice (if ca=s then pa else pa.map (fun a=>a.add (s*1))) (ds.length-s) (ca-s)=Value.slice pb xs.length cb∧Rd w pb xs∧Dig xs∧nat30 xs=nat30 ds/1073741824^s:=by
 refine ⟨ds.drop s,if ca=s then pa else pa.map (fun a=>a.add (s*1)),ca-s,by simp,by simp,?_,hx.1.drop s,nat30_drop_div ds hx.1 s⟩;intro i hi;rw [List.length_drop] at hi;obtain ⟨b,o,cs,h1,h2,h3⟩:=ha (s+i) (by omega);refine ⟨b,o+s,cs,?_,h2,?_⟩
 · rw [if_neg (by omega),h1];simp [zAu]
 · rw [show o+s+i=o+(s+i) from by omega,h3];simp
end Go.Proofs.YtjiendlfobjanaaGreatDoor.R
namespace Go.Proofs.YtjiendlfobjanaaGreatDoor.R
open Go Go.RowKit Go.Proofs Tryz
set_option maxRecDepth 10000
set_option maxHeartbeats 2000000
attribute [local irreducible] Runs WPE CallK Ret
variable {a c cap d k m n:Nat} {ds:List Nat} {w:World}
theorem size2:(prog.info? 2).map (·.size)=some 1:=by kernel_rfl
theorem info2:(prog.info? 2).map (fun i=>(i.zero,i.size,i.bytes))=some (some (.int .i64 0),1,8):=by kernel_rfl
theorem zMJ {p:Option Addr} (hcap:ds.length≤cap) (hrd:Rd w p ds) (hdig:Dig ds) (hbig:ds.length<4611686018427387904):Ret prog 264 #[.slice p ds.length cap] w (fun v _=>∃ k,k≤ds.length∧v = .slice p k cap∧Norm (ds.take k)∧nat30 (ds.take k)=nat30 ds):=by
 have E0:Ext w w:=Ext.refl w;refine J0 21 func264 rfl (rj fun K=>ag (rm [0] K ?_));refine rJ fun K=>K1 (zG zl rfl (ag (rm [0,3] K ?_)));refine zA (zD (ze (X:=Nat) (fun k ρ w'=>Keep ρ [(0,.slice p ds.length cap),(3,.int .i64 ((k:Nat):Int))]∧k≤ds.length∧nat30 (ds.take k)=nat30 ds∧Ext w w'∧Rd w' p ds) (fun k=>k) ds.length ⟨(kp rfl),Nat.le_refl _,by simp,E0,hrd⟩ ?_));clear E0 hrd;rintro k ρ1 w1 ⟨hk,hkl,hnk,E0,hrd⟩;refine wpe_k _ hk ?_;clear hk ρ1;refine zA (zA ?_);rcases k with _ | k
 · skip
   refine rI fun K=>K8 rfl (mv (K3 (K3 (K3 (K3 (K3 (K3 (pk rfl (rs [0,3,9,10,11,12,13,14,15] K ?_)))))))));refine wcf rfl (zV (zv (zi (zL (zN (rJ fun K=>mv (K1 (zBq (h:=((0:Nat):Int)) zl rfl rfl (by omega) (by omega) (ag (rm [0,2,3] K ?_))))))))));refine zB (zQ ?_);exact ⟨rfl,_,zg rfl rfl,E0,0,Nat.zero_le _,rfl,⟨by intro d hd;simp at hd,by simp⟩,hnk⟩
 · obtain ⟨b,o,cs,rfl,hB,hv⟩:=hrd k (by omega);have hg0:decide (((k+1:Nat):Int)>0)=true:=by simp only [decide_eq_true_eq];omega
   have hg:(decide (((k+1:Nat):Int)>0)==true)=true:=by rw [hg0];rfl
   have hw:IntKind.i64.wrap (((k+1:Nat):Int)-1)=(k:Int):=by rw [zj (by omega) (by omega)];omega
   refine rI fun K=>K8 rfl (mv (sr_g hg (zC (sr_g hg (zC (sr_g hg (zF rfl rfl rfl (sr_g hg (zE (ix:=k) zl rfl (congrArg (Value.int .i64) hw) (by omega) (by omega) (sr_g hg (zI zBS rfl hB (by simpa using hv) (sr_g hg (zF rfl rfl rfl (pk (b:=true) (congrArg Value.bool hg0) (rs [0,3,9,10,11,12,13,14,15] K ?_)))))))))))))));refine K0 rfl ?_ ?_<;>intro hc
   · have hz:ds.getD k 0=0:=t_beq (b:=0) hc;refine sk (zD (rI fun K=>K8 rfl (ag (rl K (zS (zP (⟨rfl,k,⟨⟨rfl,rfl,rfl,congrArg (Value.int .i64) hw,trivial⟩,by omega,?_,E0,hrd⟩,by omega⟩)))))));rw [← hnk,zCv (by omega) hz]
   · have hz:ds.getD k 0≠0:=f_beq (b:=0) hc;refine zV (zv (zi (zL (zN (rJ fun K=>mv (K1 (zBq (h:=((k+1:Nat):Int)) zl rfl rfl (by omega) (by omega) (ag (rm [0,2,3] K ?_)))))))));refine zB (en rfl E0 ⟨k+1,hkl,rfl,zJF hdig (by omega) hz,hnk⟩)
theorem zHL {p:Option Addr} (hn:ds.length=n) (hcap:n≤cap) (hrd:Rd w p ds) (hdig:Dig ds) (hbig:n<4611686018427387904):Ret prog 264 #[.slice p n cap] w (fun v w'=>IsN w' v (nat30 ds)):=by
 subst hn;exact (zMJ hcap hrd hdig hbig).mono fun v w' hx ⟨k,hk,hv,hn,he⟩=>⟨p,ds.take k,cap,by rw [hv];simp [Nat.min_eq_left hk],by simp;omega,(hrd.ext hx).take k,hn,he⟩
theorem zFy (w:World):Ret prog 162 #[] w (fun v w'=>IsN w' v 1):=by
 refine J0 2 func162 rfl (rj fun K=>ag (rm [] K ?_));refine rj fun K => ?_;refine K1 (zc (cs:=[.int .i64 1]) zBD info2' (by decide) (by decide) (by kernel_rfl) fun b w1 hb hE hB hs => ?_);replace E0:=E0.trans hE;refine ag (rm [0] K ?_);refine zB (en rfl E0 ?_);refine ⟨some ⟨b,0,none⟩,[1],1,rfl,by decide,fun i hi => ?_,⟨by intro d hd;simp at hd;omega,by simp⟩,rfl⟩;have:i=0:=by simpa using hi
 subst this;exact ⟨b,0,_,rfl,hB,rfl⟩
theorem zDL {x:Value} (hx:IsN w x n):Ret prog 163 #[x] w (fun v _=>v = .bool (decide (n=1))):=by
 obtain ⟨p,ds,cap,rfl,hcap,hrd,hno,hn⟩:=hx;have hi:=zMW hno;rw [hn] at hi;by_cases hl:ds.length=1
 · obtain ⟨d,rfl⟩:∃ d,ds=[d]:=by match ds,hl with | [d],_=>exact ⟨d,rfl⟩
   obtain ⟨b,o,cs,rfl,hB,hv⟩:=hrd 0 (by simp);have E0:Ext w w:=Ext.refl w;refine J0 12 func163 rfl (rj fun K=>ag (rm [0] K ?_));refine rJ fun K=>K1 (zG zl rfl (K8 rfl (mv (K7 (K2 (zE zl rfl rfl (by decide) (by simp) (K2 (zI zBS rfl hB hv (K2 (zF rfl rfl rfl (pk rfl (ag (rm [2] K ?_)))))))))))));refine zB (en rfl E0 ?_);show Value.bool ((d:Int)==1)=_;congr 1;rw [Bool.eq_iff_iff];simp at hi ⊢;omega
 · have hl':((((ds.length:Nat):Int)==1)==true)=false:=by simp;omega
   have E0:Ext w w:=Ext.refl w;refine J0 12 func163 rfl (rj fun K=>ag (rm [0] K ?_));refine rJ fun K=>K1 (zG zl rfl (K8 rfl (mv (zCE hl' (zCE hl' (zCE hl' (zCE hl' (pk rfl (ag (rm [2] K ?_))))))))));refine zB (en rfl E0 ?_);show (if (((ds.length:Nat):Int)==1)=true then _ else Value.bool false)=_;rw [if_neg (by simp;omega)];congr 1;have:¬ n=1:=fun e=>hl (hi.1 e).1;simp [this]
theorem zDq (hn:n<1152921504606846976):Ret prog 248 #[.int .i64 (n:Int)] w (fun v w'=>IsN w' v n):=by
 have hq:IntKind.i64.wrap (((n:Nat):Int).tdiv 1073741824)=((n/1073741824:Nat):Int):=zj (by show (-9223372036854775808:Int)≤((n/1073741824:Nat):Int);omega) (by show ((n/1073741824:Nat):Int)<9223372036854775808;omega);refine J0 9 func248 rfl (rj fun K=>ag (rm [0] K ?_));refine rJ fun K=>K1 (zHy rfl rfl (by decide) (mv (K1 (zCX rfl rfl (by decide) ?_))));refine K1 (zc (cs:=[.int .i64 (((n:Nat):Int).tmod 1073741824),.int .i64 (IntKind.i64.wrap (((n:Nat):Int).tdiv 1073741824))]) zBD info2' (by decide) (by decide) (by kernel_rfl) fun b w1 hb hE hB hs => ?_);replace E0:=E0.trans hE;clear hE hb hs;rw [hq] at hB;replace hB:Blk w1 b 2 (dv [n%1073741824,n/1073741824]):=hB;refine K1 (j0 E0 hb264 (zHL (ds:=[n%1073741824,n/1073741824]) rfl (Nat.le_refl _) (Rd.of_blk hB) (by intro d hd;simp at hd;omega) (by decide)) fun v1_5 w1 E0 hr => ?_);rw [show nat30 [n%1073741824,n/1073741824]=n from by simp only [nat30];omega] at hr;refine ag (rm [2] K ?_);exact zB (en rfl E0 hr)
theorem zKa {x y:Value} (hx:IsN w x m) (hy:IsN w y n) (hm:Fit m) (hn:Fit n):Ret prog 202 #[x,y] w (fun v _=>∃ c,v = .int .i64 c∧CmpIs c m n):=by
 obtain ⟨pa,xs,ca,rfl,hca,ha,hxn,hxv⟩:=hx;obtain ⟨pb,ys,cb,rfl,hcb,hb,hyn,hyv⟩:=hy;subst hxv;subst hyv;have hlx:=hxn.fit hm;have hly:=hyn.fit hn;have E0:Ext w w:=Ext.refl w;refine J0 41 func202 rfl (rj fun K=>ag (rm [0,1] K ?_));refine zA (rJ fun K=>K1 (zG zl rfl (mv (K1 (zG zl rfl (K8 rfl (rm [0,1,10] K ?_)))))));refine K0 rfl ?_ ?_<;>intro hc
 · have hl:xs.length<ys.length:=t_lt hc;refine rj fun K=>ag (rm [0,1,4] K ?_);refine zB (zU (en rfl E0 ⟨-1,rfl,?_⟩));have:=Norm.len_lt hxn.1 hyn hl;exact ⟨⟨fun _=>this,fun _=>by omega⟩,⟨fun e=>by omega,fun e=>by omega⟩⟩
 · have hl1:ys.length≤xs.length:=f_lt hc;clear hc;refine sk (zA (rJ fun K=>K1 (zG zl rfl (mv (K1 (zG zl rfl (K8 rfl (rm [0,1,15] K ?_))))))));refine K0 rfl ?_ ?_<;>intro hc
   · have hl:ys.length<xs.length:=t_lt hc;refine rj fun K=>ag (rm [0,1,4] K ?_);refine zB (zU (en rfl E0 ⟨1,rfl,?_⟩));have:=Norm.len_lt hyn.1 hxn hl;exact ⟨⟨fun _=>by omega,fun _=>by omega⟩,⟨fun e=>by omega,fun e=>by omega⟩⟩
   · have hl2:xs.length≤ys.length:=f_lt hc;clear hc;have hl:xs.length=ys.length:=by omega
     refine sk (zA (rJ fun K=>K1 (zG zl rfl (K8 rfl (ag (rm [0,1,5] K ?_))))));refine zD (ze (X:=Nat) (fun k ρ w'=>Keep ρ [(0,.slice pa xs.length ca),(1,.slice pb ys.length cb),(5,.int .i64 (((k:Nat):Int)-1))]∧k≤xs.length∧nat30 (xs.drop k)=nat30 (ys.drop k)∧Ext w w'∧Rd w' pa xs∧Rd w' pb ys) (fun k=>k) xs.length ⟨⟨rfl,rfl,rfl,rfl,rfl,congrArg (Value.int .i64) (zj (by omega) (by omega)),trivial⟩,Nat.le_refl _,by rw [hl,List.drop_length,← hl,List.drop_length],E0,ha,hb⟩ ?_);clear E0 ha hb;rintro k ρ1 w1 ⟨hk,hkl,hdk,E0,ha,hb⟩;refine wpe_k _ hk ?_;clear hk ρ1;refine zA (zA ?_);rcases k with _ | k
     · skip
       refine rI fun K=>K8 rfl (rs [0,1,5,20] K ?_);refine wcf rfl (zV (zv (zi (zL (zN (rj fun K=>ag (rm [0,1,4,5] K ?_)))))));refine zB (en rfl E0 ⟨0,rfl,?_⟩);simp only [List.drop_zero] at hdk;rw [hdk];exact ⟨⟨fun h=>by omega,fun h=>by omega⟩,⟨fun _=>rfl,fun _=>rfl⟩⟩
     · obtain ⟨b1,o1,cs1,hpa1,hB1,hv1⟩:=ha k (by omega);obtain ⟨b2,o2,cs2,hpb2,hB2,hv2⟩:=hb k (by omega);have hkey:=nat30_eq_of hxn.1 hyn.1 hl (by omega) hdk;have hk0:decide ((((k+1:Nat):Int)-1)≥0)=true:=by simp only [decide_eq_true_eq];omega
       have hwk:IntKind.i64.wrap (((k+1:Nat):Int)-1-1)=((k:Nat):Int)-1:=by rw [zj (by omega) (by omega)];omega
       have hkn:(((k+1:Nat):Int)-1).toNat=k:=by omega
       refine rI fun K=>K8 rfl (rs [0,1,5,20] K ?_);refine wct (congrArg Value.bool hk0) (sk (zA (zD (zA (zA (zCH mixed rfl rfl fun K hK=>qr rfl (fun wx hE=>zC ⟨rfl,Ext.refl _⟩) (qr rfl (fun wx hE=>zC ⟨rfl,Ext.refl _⟩) (qr rfl (fun wx hE=>zE (b:=b1) (o:=o1) zl (congrArg (fun p=>Value.slice p xs.length ca) hpa1) rfl (by omega) (by omega) ⟨rfl,Ext.refl _⟩) ?_))))))));refine qr rfl (fun wx hE=>zI zBS rfl (hB1.ext hE) (by rw [hkn];simpa using hv1) ⟨rfl,Ext.refl _⟩) ?_;refine qr rfl (fun wx hE=>zC ⟨rfl,Ext.refl _⟩) (qr rfl (fun wx hE=>zC ⟨rfl,Ext.refl _⟩) (qr rfl (fun wx hE=>zE (b:=b2) (o:=o2) zl (congrArg (fun p=>Value.slice p ys.length cb) hpb2) rfl (by omega) (by omega) ⟨rfl,Ext.refl _⟩) ?_));refine qr rfl (fun wx hE=>zI zBS rfl (hB2.ext hE) (by rw [hkn];simpa using hv2) ⟨rfl,Ext.refl _⟩) ?_;refine qr rfl (fun wx hE=>zF rfl rfl rfl ⟨rfl,Ext.refl _⟩) (hK _ fun wq hE => ?_);replace E0:=E0.trans hE;replace ha:=ha.ext hE;replace hb:=hb.ext hE;replace hB1:=hB1.ext hE;replace hB2:=hB2.ext hE;clear hE;refine zN (K5 [0,1,5,31] ?_);refine K0 rfl ?_ ?_<;>intro hc
       · have hlt:xs.getD k 0<ys.getD k 0:=t_lt hc;refine rj fun K=>ag (rm [0,1,4,5] K ?_);refine zB (zU (zT (zU (zAG (zT (zU (en rfl E0 ⟨-1,rfl,?_⟩)))))));have:=hkey.2.1 hlt;exact ⟨⟨fun _=>this,fun _=>by omega⟩,⟨fun e=>by omega,fun e=>by omega⟩⟩
       · have hge:ys.getD k 0≤xs.getD k 0:=f_lt hc;clear hc;refine sk (zA (zCH mixed rfl rfl fun K hK=>qr rfl (fun wx hE=>zC ⟨rfl,Ext.refl _⟩) (qr rfl (fun wx hE=>zC ⟨rfl,Ext.refl _⟩) (qr rfl (fun wx hE=>zE (b:=b1) (o:=o1) zl (congrArg (fun p=>Value.slice p xs.length ca) hpa1) rfl (by omega) (by omega) ⟨rfl,Ext.refl _⟩) ?_))));refine qr rfl (fun wx hE=>zI zBS rfl (hB1.ext hE) (by rw [hkn];simpa using hv1) ⟨rfl,Ext.refl _⟩) ?_;refine qr rfl (fun wx hE=>zC ⟨rfl,Ext.refl _⟩) (qr rfl (fun wx hE=>zC ⟨rfl,Ext.refl _⟩) (qr rfl (fun wx hE=>zE (b:=b2) (o:=o2) zl (congrArg (fun p=>Value.slice p ys.length cb) hpb2) rfl (by omega) (by omega) ⟨rfl,Ext.refl _⟩) ?_));refine qr rfl (fun wx hE=>zI zBS rfl (hB2.ext hE) (by rw [hkn];simpa using hv2) ⟨rfl,Ext.refl _⟩) ?_;refine qr rfl (fun wx hE=>zF rfl rfl rfl ⟨rfl,Ext.refl _⟩) (hK _ fun wq hE => ?_);replace E0:=E0.trans hE;replace ha:=ha.ext hE;replace hb:=hb.ext hE;replace hB1:=hB1.ext hE;replace hB2:=hB2.ext hE;clear hE;refine zN (K5 [0,1,5,40] ?_);refine K0 rfl ?_ ?_<;>intro hc
         · have hlt:ys.getD k 0<xs.getD k 0:=t_lt hc;refine rj fun K=>ag (rm [0,1,4,5] K ?_);refine zB (zT (zU (zAG (zT (zU (en rfl E0 ⟨1,rfl,?_⟩))))));have:=hkey.2.2 hlt;exact ⟨⟨fun _=>by omega,fun _=>by omega⟩,⟨fun e=>by omega,fun e=>by omega⟩⟩
         · have hle:xs.getD k 0≤ys.getD k 0:=f_lt hc;have heq:xs.getD k 0=ys.getD k 0:=by omega
           exact zm (zS (zN (rI fun K=>K8 rfl (ag (rl K (zP (⟨rfl,k,⟨⟨rfl,rfl,rfl,rfl,rfl,congrArg (Value.int .i64) hwk,trivial⟩,by omega,hkey.1 heq,E0,ha,hb⟩,by omega⟩)))))))
theorem nat30_drop_le (ds:List Nat) (k:Nat):nat30 (ds.drop k)≤nat30 ds:=by
 conv=>rhs;rw [zBn ds k]
 have:1≤1073741824^(min k ds.length):=Nat.pow_pos (by decide);have:=Nat.mul_le_mul_right (nat30 (ds.drop k)) this;omega
theorem zNt {x:Value} (hx:IsN w x n) (hn:n<1152921504606846976):Ret prog 251 #[x] w (fun v _=>v = .int .i64 (n:Int)):=by
 obtain ⟨p,ds,cap,rfl,hcap,hrd,hno,hnv⟩:=hx;subst hnv;have hl2:ds.length≤2:=by
  by_cases h0:ds=[]
  · subst h0;decide
  · have h1:=hno.lo h0;rcases Nat.lt_or_ge 2 ds.length with h | h
    · have:=Nat.pow_le_pow_right (show 0<1073741824 by decide) (show 2≤ds.length-1 by omega);omega
    · exact h
 have E0:Ext w w:=Ext.refl w;refine J0 20 func251 rfl (rj fun K=>ag (rm [0] K ?_));refine rj fun K=>ag (rm [0,3] K ?_);refine zA (rJ fun K=>K1 (zG zl rfl (K8 rfl (ag (rm [0,3,4] K ?_)))));refine zD ?_;refine ze (X:=Nat) (fun k ρ w'=>Keep ρ [(0,.slice p ds.length cap),(3,.int .i64 ((nat30 (ds.drop k):Nat):Int)),(4,.int .i64 (((k:Nat):Int)-1))]∧k≤ds.length∧Ext w w'∧Rd w' p ds) (fun k=>k) ds.length ⟨⟨rfl,rfl,rfl,by rw [List.drop_length];rfl,rfl,congrArg (Value.int .i64) (zj (by omega) (by omega)),trivial⟩,Nat.le_refl _,E0,hrd⟩ ?_;clear E0 hrd;rintro k ρ1 w1 ⟨hk,hkl,E0,hrd⟩;refine wpe_k _ hk ?_;clear hk ρ1;refine zA (zA ?_);rcases k with _ | k
 · skip
   refine rI fun K=>K8 rfl (rs [0,3,4,9] K ?_);refine wcf rfl (zV (zv (zi (zL (zN (rJ fun K=>ag (rm [0,2,3,4] K ?_)))))));exact zB (en rfl E0 rfl)
 · obtain ⟨b1,o1,cs1,hpa1,hB1,hv1⟩:=hrd k (by omega);have hk0:decide ((((k+1:Nat):Int)-1)≥0)=true:=by simp only [decide_eq_true_eq];omega
   have hwk:IntKind.i64.wrap (((k+1:Nat):Int)-1-1)=((k:Nat):Int)-1:=by rw [zj (by omega) (by omega)];omega
   have hkn:(((k+1:Nat):Int)-1).toNat=k:=by omega
   have hd:=zBh (show k<ds.length by omega);have hdl:=nat30_drop_le ds k;have hsum:IntKind.i64.wrap (IntKind.i64.wrap (((nat30 (ds.drop (k+1)):Nat):Int)*1073741824)+((ds.getD k 0:Nat):Int))=((nat30 (ds.drop k):Nat):Int):=by
    have hi:IntKind.i64.wrap (((nat30 (ds.drop (k+1)):Nat):Int)*1073741824)=((nat30 (ds.drop (k+1)):Nat):Int)*1073741824:=zj (by omega) (by omega);rw [hi,zj (by omega) (by omega)];omega
   refine rI fun K=>K8 rfl (rs [0,3,4,9] K ?_);refine wct (congrArg Value.bool hk0) (sk (zA (zD (rI fun K=>K8 rfl (mv (mv (K1 (zE (b:=b1) (o:=o1) zl (congrArg (fun p=>Value.slice p ds.length cap) hpa1) rfl (by omega) (by omega) ?_))))))));refine K1 (zI zBS rfl hB1 (by rw [hkn];simpa using hv1) ?_);refine K8 rfl (ag (rl K (zS (zN (K5 [0,3,4] ?_)))));refine rI fun K=>K8 rfl (ag (rl K (zP (⟨rfl,k,⟨⟨rfl,rfl,rfl,congrArg (Value.int .i64) hsum,rfl,congrArg (Value.int .i64) hwk,trivial⟩,by omega,E0,hrd⟩,by omega⟩))))
def bitsN (n:Nat):Nat:=if n=0 then 0 else n.log2+1
theorem bitsN_half (h:n≠0):bitsN n=bitsN (n/2)+1:=by
 unfold bitsN;rw [if_neg h,Nat.log2_def];by_cases h2:2≤n
 · rw [if_pos h2,if_neg (by omega)]
 · rw [if_neg h2,if_pos (by omega)]
theorem log2_top {top:Nat} (ha:a<2^k) (ht:top≠0):(a+2^k*top).log2=k+top.log2:=by
 have h0:0<2^k:=Nat.pow_pos (by decide);have h1:0<2^k*top:=Nat.mul_pos h0 (by omega);rw [Nat.log2_eq_iff (by omega)];have e1:=Nat.log2_self_le ht;have e2:=(Nat.log2_lt ht (k:=top.log2+1)).1 (by omega);have e3:=Nat.mul_le_mul_left (2^k) e1;have e4:=Nat.mul_le_mul_left (2^k) (show top+1≤2^(top.log2+1) from e2);rw [← Nat.pow_add] at e3 e4;rw [Nat.mul_add,Nat.mul_one] at e4;rw [Nat.add_assoc];omega
theorem pow30 (k:Nat):1073741824^k=2^(30*k):=by rw [Nat.pow_mul]
theorem bitsN_top (h:Dig ds) (hl:ds.length=k+1) (h0:ds.getD k 0≠0):bitsN (nat30 ds)=30*k+bitsN (ds.getD k 0):=by
 have e:=zCd (ds:=ds) (k:=k) (by omega);rw [List.take_of_length_le (by omega)] at e;have hlt:=zCe _ (h.take k);rw [List.length_take,Nat.min_eq_left (by omega),pow30] at hlt;rw [pow30] at e;have hp:0<2^(30*k)*ds.getD k 0:=Nat.mul_pos (Nat.pow_pos (by decide)) (by omega);rw [e];unfold bitsN;rw [if_neg (by omega),if_neg h0,log2_top hlt h0];omega
theorem Norm.last (h:Norm ds) (hl:ds.length=k+1):ds.getD k 0≠0:=by
 have:=h.2;rw [List.getLast?_eq_getElem?,hl,Nat.add_sub_cancel] at this;intro e;apply this;rw [List.getD_eq_getElem?_getD] at e;rw [List.getElem?_eq_getElem (by omega)] at e ⊢;simpa using e
theorem bitsN_le:bitsN n≤n:=by
 unfold bitsN;split
 · omega
 · rename_i h;exact (Nat.log2_lt h).2 (Nat.lt_two_pow_self)
theorem length_ok {x:Value} (hx:IsN w x n) (hf:Fit n):Ret prog 308 #[x] w (fun v _=>v = .int .i64 (bitsN n:Nat)):=by
 obtain ⟨p,ds,cap,rfl,hcap,hrd,hno,hnv⟩:=hx;subst hnv;have hlx:=hno.fit hf;rcases Nat.eq_zero_or_pos ds.length with hl0 | hl0
 · obtain rfl:=List.eq_nil_of_length_eq_zero hl0;have E0:Ext w w:=Ext.refl w;refine J0 25 func308 rfl (rj fun K=>ag (rm [0] K ?_));refine zA (rJ fun K=>K1 (zG zl rfl (K8 rfl (rm [0,7] K ?_))));refine wct rfl (rj fun K=>ag (rm [2] K ?_));exact zB (zU (en rfl E0 rfl))
 · obtain ⟨k,hlk⟩:∃ k,ds.length=k+1:=⟨ds.length-1,by omega⟩;have hlast:=hno.last hlk;have hb1:bitsN (ds.getD k 0)≤1073741824:=Nat.le_trans bitsN_le (Nat.le_of_lt (hno.1.getD k));have hdk:=hno.1.getD k;have hw1:IntKind.i64.wrap (((ds.length:Nat):Int)-1)=(k:Int):=by rw [zj (by omega) (by omega)];omega
   obtain ⟨b1,o1,cs1,hpa1,hB1,hv1⟩:=hrd k (by omega);have E0:Ext w w:=Ext.refl w;refine J0 25 func308 rfl (rj fun K=>ag (rm [0] K ?_));refine zA (rJ fun K=>K1 (zG zl rfl (K8 rfl (rm [0,7] K ?_))));have hcl:(((ds.length:Nat):Int)==0)=false:=beq_eq_false_iff_ne.2 (by omega);refine wcf (congrArg Value.bool hcl) (sk (rJ fun K=>K1 (zG zl rfl (K8 rfl (K8 rfl (ag (rm [0,3] K ?_)))))));refine zA (rJ fun K=>mv (K1 (zG zl rfl (K8 rfl (K1 (zE (b:=b1) (o:=o1) (ix:=(k:Int)) zl (congrArg (fun p=>Value.slice p ds.length cap) hpa1) (congrArg (Value.int .i64) hw1) (by omega) (by omega) (K1 (zI zBS rfl hB1 (by simpa using hv1) (ag (rm [3,4] K ?_))))))))));refine zD (ze (X:=Nat) (fun t ρ w'=>Keep ρ [(3,.int .i64 ((30*k+bitsN (ds.getD k 0)-bitsN t:Nat):Int)),(4,.int .i64 ((t:Nat):Int))]∧t≤ds.getD k 0∧bitsN t≤bitsN (ds.getD k 0)∧Ext w w') (fun t=>t) (ds.getD k 0) ⟨⟨rfl,?_,rfl,rfl,trivial⟩,Nat.le_refl _,Nat.le_refl _,E0⟩ ?_)
   · show Value.int .i64 (IntKind.i64.wrap (30*IntKind.i64.wrap (((ds.length:Nat):Int)-1)))=_;rw [hw1,zj (by omega) (by omega)];congr 1;omega
   clear E0;rintro t ρ1 w1 ⟨hk,hkl,hbt,E0⟩;refine wpe_k _ hk ?_;clear hk ρ1;refine zA (rJ fun K=>K8 rfl (rm [3,4,19] K ?_));refine K0 rfl ?_ ?_<;>intro hc
   · have ht:0<t:=t_lt (a:=0) hc;clear hc;have hhalf:=bitsN_half (show t≠0 by omega);refine sk (zA (zD (rI fun K=>K8 rfl (ag (rl K (zS (zN (K5 [3,4] ?_))))))));refine rI fun K=>K1 (zCX rfl rfl (by decide) (ag (rl K (zP ?_))));refine ⟨rfl,t/2,⟨⟨rfl,congrArg (Value.int .i64) (by rw [zj (by omega) (by omega)];omega),rfl,congrArg (Value.int .i64) (zj (by show (-9223372036854775808:Int)≤((t/2:Nat):Int);omega) (by show ((t/2:Nat):Int)<9223372036854775808;omega)),trivial⟩,by omega,by omega,E0⟩,by omega⟩
   · have ht:t≤0:=f_lt (a:=0) hc;obtain rfl:t=0:=by omega
     refine zV (zv (zi (zL (zN (rJ fun K=>ag (rm [2,3,4] K ?_))))));refine zB (en rfl E0 ?_);rw [bitsN_top hno.1 hlk hlast];rfl
theorem zeros_law {r:Nat} (h:n=2^(30*k)*(2^c*d+1073741824*r)) (hd:d%2=1) (hc:2^c*d<1073741824):2^(30*k+c)∣n∧n/2^(30*k+c)%2=1:=by
 have hc30:c<30:=by
  have h1:2^c*1≤2^c*d:=Nat.mul_le_mul_left _ (by omega);exact (Nat.pow_lt_pow_iff_right (by decide:1<2)).1 (show 2^c<2^30 by omega)
 obtain ⟨e,he⟩:∃ e,30=c+(e+1):=⟨29-c,by omega⟩;have h30:1073741824=2^c*2^(e+1):=by rw [← Nat.pow_add,← he]
 have hn:n=2^(30*k+c)*(d+2*(2^e*r)):=by
  rw [h,h30,Nat.pow_add,Nat.pow_succ];grind
 refine ⟨⟨_,hn⟩,?_⟩;rw [hn,Nat.mul_div_cancel_left _ (Nat.pow_pos (by decide))];omega
theorem zKN {x:Value} (hx:IsN w x n) (hf:Fit n) (h0:n≠0):Ret prog 249 #[x] w (fun v _=>∃ z:Nat,v = .int .i64 (z:Int)∧2^z∣n∧n/2^z%2=1):=by
 obtain ⟨p,ds,cap,rfl,hcap,hrd,hno,hnv⟩:=hx;subst hnv;have hlx:=hno.fit hf;have hne:ds≠[]:=fun e=>h0 (by rw [e];rfl);have hl0:0<ds.length:=List.length_pos_iff.2 hne;have E0:Ext w w:=Ext.refl w;refine J0 26 func249 rfl (rj fun K=>ag (rm [0] K ?_));refine rj fun K=>ag (rm [0,3] K ?_);refine zA (zD (ze (X:=Nat) (fun k ρ w'=>Keep ρ [(0,.slice p ds.length cap),(3,.int .i64 ((30*k:Nat):Int))]∧k<ds.length∧nat30 (ds.take k)=0∧Ext w w'∧Rd w' p ds) (fun k=>ds.length-k) 0 ⟨(kp rfl),hl0,rfl,E0,hrd⟩ ?_));clear E0 hrd;rintro k ρ1 w1 ⟨hk,hkl,hnk,E0,hrd⟩;refine wpe_k _ hk ?_;clear hk ρ1;obtain ⟨b1,o1,cs1,hpa1,hB1,hv1⟩:=hrd k hkl;have hq:IntKind.i64.wrap (((30*k:Nat):Int).tdiv 30)=(k:Int):=by
  have e:((30*k:Nat):Int).tdiv 30=((30*k/30:Nat):Int):=rfl;rw [e,zj (by omega) (by omega)];omega
 refine zA (rJ fun K=>mv (K1 (zCX rfl rfl (by decide) (K1 (zE (b:=b1) (o:=o1) (ix:=(k:Int)) zl (congrArg (fun p=>Value.slice p ds.length cap) hpa1) (congrArg (Value.int .i64) hq) (by omega) (by omega) (K1 (zI zBS rfl hB1 (by simpa using hv1) (K8 rfl (rm [0,3,10] K ?_)))))))));refine K0 rfl ?_ ?_<;>intro hc
 · have hz:ds.getD k 0=0:=t_beq (b:=0) hc;refine sk (zD (rI fun K=>K8 rfl (ag (rl K (zS (zP ?_))))));have hk1:k+1<ds.length:=by
    rcases Nat.lt_or_ge (k+1) ds.length with h | h
    · exact h
    · exact absurd hz (hno.last (by omega))
   refine ⟨rfl,k+1,⟨⟨rfl,rfl,rfl,congrArg (Value.int .i64) (by rw [zj (by omega) (by omega)];omega),trivial⟩,hk1,by rw [zCv hkl hz];exact hnk,E0,hrd⟩,by omega⟩
 · have hz:ds.getD k 0≠0:=f_beq (b:=0) hc;clear hc;refine zV (zv (zi (zL (zN (zA (rJ fun K=>mv (K1 (zCX rfl rfl (by decide) (K1 (zE (b:=b1) (o:=o1) (ix:=(k:Int)) zl (congrArg (fun p=>Value.slice p ds.length cap) hpa1) (congrArg (Value.int .i64) hq) (by omega) (by omega) (K1 (zI zBS rfl hB1 (by simpa using hv1) (ag (rm [0,3,4] K ?_))))))))))))));refine zD ?_;have hdk:=hno.1.getD k;refine ze (X:=Nat×Nat) (fun q ρ w'=>Keep ρ [(3,.int .i64 ((30*k+q.1:Nat):Int)),(4,.int .i64 ((q.2:Nat):Int))]∧2^q.1*q.2=ds.getD k 0∧q.1≤1073741824∧0<q.2∧q.2+q.1≤1073741824∧Ext w w') (fun q=>q.2) (0,ds.getD k 0) ⟨(kp rfl),by simp,Nat.zero_le _,by simp only;omega,by simp only;omega,E0⟩ ?_;clear E0 hrd;rintro ⟨c,d⟩ ρ1 w2 ⟨hk,hcd,hc1,hd0,hcd1,E0⟩;simp only at hk hcd hc1 hd0 hcd1;refine wpe_k _ hk ?_;clear hk ρ1;refine zA (rJ fun K=>K1 (zHy rfl rfl (by decide) (K8 rfl (rm [3,4,20] K ?_))));refine K0 rfl ?_ ?_<;>intro hc
   · have hev:d%2=0:=t_beq (a:=d%2) (b:=0) hc;clear hc;refine sk (zA (zD (rI fun K=>K8 rfl (ag (rl K (zS (zN (K5 [3,4] ?_))))))));refine rI fun K=>K1 (zCX rfl rfl (by decide) (ag (rl K (zP ?_))));refine ⟨rfl,(c+1,d/2),⟨⟨rfl,congrArg (Value.int .i64) (by rw [zj (by omega) (by omega)];omega),rfl,congrArg (Value.int .i64) (zj (by show (-9223372036854775808:Int)≤((d/2:Nat):Int);omega) (by show ((d/2:Nat):Int)<9223372036854775808;omega)),trivial⟩,?_,by simp only;omega,by simp only;omega,by simp only;omega,E0⟩,by simp only;omega⟩;simp only;rw [← hcd,Nat.pow_succ,Nat.mul_assoc];congr 1;omega
   · have hod:d%2≠0:=f_beq (a:=d%2) (b:=0) hc;refine zV (zv (zi (zL (zN (rJ fun K=>ag (rm [2,3,4] K ?_))))));refine zB (en rfl E0 ⟨30*k+c,rfl,?_⟩);have e1:=zBn ds k;rw [hnk,Nat.zero_add,Nat.min_eq_left (by omega),pow30,zBh hkl,← hcd] at e1;exact zeros_law e1 (by omega) (by have:=hno.1.getD k;omega)
variable {P:Program} {b i o s sz':Nat} {af:Array Edge} {xs ys:List Nat} {fd:Nat→Nat→Nat→Nat×Nat} {g:Option (Nat×Bool)} {k':IntKind} {pos:String} {r:Option Nat} {t' ty:TypeId} {v:Value} {w':World} {σ:Operand→Value}
section laws
variable {K:Value→World→Prop} {d:Option Tmp} {t:TypeId} {x y:Operand}
theorem zJo (c:Nat) (hx:σ x = .int .i64 (a:Int)) (hy:σ y = .int k' (s:Int)) (hs:s≤64) (h:a*2^s=c) (hc:c<9223372036854775808) (hk:K (.int .i64 (c:Int)) w):Runs P r ⟨d,.binOp .shl t x y t',ty,pos,af,g⟩ σ w K:=by
 refine zNV hx hy (by omega) ?_;have e:min (s:Int).toNat IntKind.i64.bits=s:=by simp [IntKind.bits];omega
 have e2:(a:Int)*2^s=(c:Int):=by rw [← h];simp
 rw [e,e2,zj (by omega) (by omega)];exact hk
end laws
theorem zOC:((zY fd xs ys i).1++List.replicate (n+1) 0).set i (fd (xs.getD i 0) (ys.getD i 0) (zY fd xs ys i).2).1=(zY fd xs ys (i+1)).1++List.replicate n 0:=by
 have h3:=zDP (zY fd xs ys i).1 n (fd (xs.getD i 0) (ys.getD i 0) (zY fd xs ys i).2).1;rw [zAE] at h3;exact h3
theorem set_last:((zY fd xs ys i).1++List.replicate 1 0).set i c=(zY fd xs ys i).1++[c]:=by
 have h3:=zDP (zY fd xs ys i).1 0 c;rw [zAE] at h3;simpa using h3
theorem plus_ok {x y:Value} (hx:IsN w x m) (hy:IsN w y n) (hm:Fit m) (hn:Fit n):Ret prog 199 #[x,y] w (fun v w'=>IsN w' v (m+n)):=by
 obtain ⟨pa0,xs0,ca0,rfl,hca,ha0,hxn0,hxv⟩:=hx;obtain ⟨pb0,ys0,cb0,rfl,hcb,hb0,hyn0,hyv⟩:=hy;subst hxv;subst hyv;have hlx:=hxn0.fit hm;have hly:=hyn0.fit hn;have E0:Ext w w:=Ext.refl w;refine J0 55 func199 rfl (rj fun K=>ag (rm [0,1] K ?_));refine zBO (fun ρ w'=>∃ pa xs ca pb ys cb,Keep ρ [(0,.slice pa xs.length ca),(1,.slice pb ys.length cb)]∧w=w'∧Rd w pa xs∧Rd w pb ys∧Norm xs∧Norm ys∧ys.length≤xs.length∧nat30 xs+nat30 ys=nat30 xs0+nat30 ys0∧xs.length≤293203100741) ?_ ?_
 · refine rJ fun K=>K1 (zG zl rfl (mv (K1 (zG zl rfl (K8 rfl (rm [0,1,12] K ?_))))));refine K0 rfl ?_ ?_<;>intro hc
   · have hlt:=t_lt hc;clear hc;exact rI fun K=>mv (ag (ag (rl K (zP ⟨rfl,pb0,ys0,cb0,pa0,xs0,ca0,(kp rfl),rfl,hb0,ha0,hyn0,hxn0,by omega,Nat.add_comm _ _,hly⟩))))
   · have hle:=f_lt hc;clear hc;exact zm (zP ⟨rfl,pa0,xs0,ca0,pb0,ys0,cb0,(kp rfl),rfl,ha0,hb0,hxn0,hyn0,hle,rfl,hlx⟩)
 · rintro ρ1 w1 ⟨pa,xs,ca,pb,ys,cb,hk,rfl,ha,hb,hxn,hyn,hll,hsum,hlx1⟩;refine wpe_k _ hk ?_;clear hk ρ1;refine rJ fun K=>K1 (zG zl rfl (K1 (za (b:=1) (xs.length+1) rfl rfl rfl (by omega) ?_)));refine K1 (zAJ zBD info2 rfl rfl rfl (by omega) (by omega) (by omega) fun b w1 hb1 hE hB hs => ?_);have hgb:w.heap.size≤b:=by rw [hb1];exact E0.size
   have hna:=ha.ne (Nat.le_of_eq hb1.symm);have hnb:=hb.ne (Nat.le_of_eq hb1.symm);replace E0:=E0.trans hE;replace ha:=ha.ext hE;replace hb:=hb.ext hE;clear hE hs hb1;rw [show ((xs.length+1:Nat):Int).toNat=xs.length+1 from by omega,show (Value.int IntKind.i64 0).cells.toList=[Value.int IntKind.i64 0] from rfl,zAk] at hB;refine ag (rm [0,1,5] K ?_);refine rj fun K=>ag (rm [0,1,5,6] K ?_);refine zA (rj fun K=>ag (rm [0,1,5,6,7] K ?_));refine zD ?_;have hcl:=zCw hxn.1 hyn.1 (fd:=fAdd) (fun x y c hx hy hc=>zHP hx hy hc);refine ze (X:=Nat) (fun i ρ w'=>Keep ρ [(0,.slice pa xs.length ca),(1,.slice pb ys.length cb),(5,.slice (some ⟨b,0,none⟩) (xs.length+1) (xs.length+1)),(6,.int .i64 ((zY fAdd xs ys i).2:Nat)),(7,.int .i64 (i:Nat))]∧i≤xs.length∧Ext w w'∧Rd w' pa xs∧Rd w' pb ys∧Blk w' b 2 (dv ((zY fAdd xs ys i).1++List.replicate (xs.length+1-i) 0))) (fun i=>xs.length-i) 0 ⟨(kp rfl),Nat.zero_le _,E0,ha,hb,hB⟩ ?_;clear E0 ha hb hB;rintro i ρ1 w1 ⟨hk,hil,E0,ha,hb,hB⟩;refine wpe_k _ hk ?_;clear hk ρ1;have hci:=hcl i;have hdx:=hxn.1.getD i;have hdy:=hyn.1.getD i;refine zA (rJ fun K=>mv (K1 (zG zl rfl (K8 rfl (rm [0,1,5,6,7,22] K ?_)))));refine K0 rfl ?_ ?_<;>intro hc
   · have hlt:i<xs.length:=t_lt hc;clear hc;obtain ⟨b2,o2,cs2,hpa2,hB2,hv2⟩:=ha i hlt;refine sk (zA (zD (rJ fun K=>mv (mv (K1 (zE (b:=b2) (o:=o2) zl (congrArg (fun p=>Value.slice p xs.length ca) hpa2) rfl (by omega) (by omega) (K1 (zI zBS rfl hB2 (by simpa using hv2) (K1 (za ((zY fAdd xs ys i).2+xs.getD i 0) rfl rfl rfl (by omega) (ag (rm [0,1,5,6,7] K ?_))))))))))));refine zBO (fun ρ w'=>Keep ρ [(0,.slice pa xs.length ca),(1,.slice pb ys.length cb),(5,.slice (some ⟨b,0,none⟩) (xs.length+1) (xs.length+1)),(6,.int .i64 ((xs.getD i 0+ys.getD i 0+(zY fAdd xs ys i).2:Nat):Int)),(7,.int .i64 (i:Nat))]∧w1=w') ?_ ?_
     · refine rJ fun K=>mv (K1 (zG zl rfl (K8 rfl (rm [0,1,5,6,7,34] K ?_))));refine K0 rfl ?_ ?_<;>intro hc
       · have hltb:i<ys.length:=t_lt hc;clear hc;obtain ⟨b3,o3,cs3,hpb3,hB3,hv3⟩:=hb i hltb;exact rI fun K=>mv (mv (K1 (zE (b:=b3) (o:=o3) zl (congrArg (fun p=>Value.slice p ys.length cb) hpb3) rfl (by omega) (by omega) (K1 (zI zBS rfl hB3 (by simpa using hv3) (K1 (za ((zY fAdd xs ys i).2+xs.getD i 0+ys.getD i 0) rfl rfl rfl (by omega) (ag (rl K (zP (⟨rfl,⟨rfl,rfl,rfl,rfl,rfl,rfl,rfl,congrArg (Value.int .i64) (by omega),rfl,rfl,trivial⟩,rfl⟩)))))))))))
       · have hltb:ys.length≤i:=f_lt hc;have hy0:ys.getD i 0=0:=zDi hltb;exact zm (zP (⟨rfl,⟨rfl,rfl,rfl,rfl,rfl,rfl,rfl,congrArg (Value.int .i64) (by omega),rfl,rfl,trivial⟩,rfl⟩))
     · rintro ρ2 w2 ⟨hk,rfl⟩;refine wpe_k _ hk ?_;clear hk ρ2;refine rJ fun K=>mv (mv (K1 (zAP (b:=1073741824) ((xs.getD i 0+ys.getD i 0+(zY fAdd xs ys i).2)%1073741824) rfl rfl (by decide) rfl (K1 (zE (b:=b) (o:=0) zl rfl rfl (by omega) (by omega) ?_)))));refine K1 (zt size2 rfl hB rfl (by simp [zAF,zAE]<;>omega) (by decide) rfl fun w3 hU hN => ?_);refine rm [0,1,5,6,7] K ?_;refine rI fun K=>K1 (zAp (b:=1073741824) ((xs.getD i 0+ys.getD i 0+(zY fAdd xs ys i).2)/1073741824) rfl rfl (by decide) rfl (by omega) (ag (rl K (zS (zN (K5 [0,1,5,6,7] ?_))))));refine rI fun K=>K8 rfl (ag (rl K (zP ?_)));have h2:=zAj (i:=i) (d:=(fAdd (xs.getD i 0) (ys.getD i 0) (zY fAdd xs ys i).2).1) hN (by simp);rw [show xs.length+1-i=xs.length-i+1 from by omega,zOC] at h2;exact ⟨rfl,i+1,⟨⟨rfl,rfl,rfl,rfl,rfl,rfl,rfl,rfl,rfl,congrArg (Value.int .i64) (zx (by omega)),trivial⟩,by omega,E0.upd hU hgb,ha.upd' hU hna,hb.upd' hU hnb,by rw [show xs.length+1-(i+1)=xs.length-i from by omega];exact h2⟩,by omega⟩
   · have hge:=f_lt hc;clear hc;obtain rfl:i=xs.length:=by omega
     refine zV (zv (zi (zL (zN (rJ fun K=>mv (K1 (zG zl rfl (mv (K1 (zE (b:=b) (o:=0) zl rfl rfl (by omega) (by omega) ?_))))))))));refine K1 (zt size2 rfl hB rfl (by simp [zAF,zAE]<;>omega) (by decide) rfl fun w3 hU hN => ?_);replace E0:=E0.upd hU hgb;have h2:=zAj (i:=xs.length) (d:=(zY fAdd xs ys xs.length).2) hN (by simp);rw [show xs.length+1-xs.length=1 from by omega,set_last] at h2;refine rm [0,1,5,6,7] K ?_;refine rJ fun K=>K1 (j0 E0 hb264 (zHL (ds:=(zY fAdd xs ys xs.length).1++[(zY fAdd xs ys xs.length).2]) (by simp [zAE]) (Nat.le_refl _) (Rd.of_blk h2) (zKt hxn.1 hyn.1) (by omega)) fun v14_1 w1 E0 hr => ?_);rw [zFj hll,hsum] at hr;refine ag (rm [0,1,4,5,6,7] K ?_);exact zB (en rfl E0 hr)
def IsF (sz:Nat) (w:World) (v:Value) (n:Nat):Prop:=∃ p ds cap,v = .slice p ds.length cap∧ds.length≤cap∧Rd w p ds∧Norm ds∧nat30 ds=n∧∀ a,p=some a→sz≤a.block
theorem IsF.isN {sz:Nat} (h:IsF sz w v n):IsN w v n:=by
 obtain ⟨p,ds,cap,h1,h2,h3,h4,h5,_⟩:=h;exact ⟨p,ds,cap,h1,h2,h3,h4,h5⟩
theorem IsF.ext {sz:Nat} (h:IsF sz w v n) (hx:Ext w w'):IsF sz w' v n:=by
 obtain ⟨p,ds,cap,h1,h2,h3,h4,h5,h6⟩:=h;exact ⟨p,ds,cap,h1,h2,h3.ext hx,h4,h5,h6⟩
theorem IsF.upd {sz:Nat} (h:IsF sz w v n) (hu:Upd b w w') (hb:b<sz):IsF sz w' v n:=by
 obtain ⟨p,ds,cap,h1,h2,h3,h4,h5,h6⟩:=h;exact ⟨p,ds,cap,h1,h2,h3.upd' hu (fun a ha _=>by have:=h6 a ha;omega),h4,h5,h6⟩
theorem IsF.mono {sz:Nat} (h:IsF sz w v n) (hs:sz'≤sz):IsF sz' w v n:=by
 obtain ⟨p,ds,cap,h1,h2,h3,h4,h5,h6⟩:=h;exact ⟨p,ds,cap,h1,h2,h3,h4,h5,fun a ha=>Nat.le_trans hs (h6 a ha)⟩
theorem IsF.nil {sz:Nat}:IsF sz w (.slice none 0 0) 0:=⟨none,[],0,rfl,Nat.le_refl _,fun i hi=>by simp at hi,⟨fun d hd=>by simp at hd,by simp⟩,rfl,fun a h=>by cases h⟩
theorem zOP {sz:Nat} {p:Option Addr} (hn:ds.length=n) (hcap:n≤cap) (hrd:Rd w p ds) (hdig:Dig ds) (hbig:n<4611686018427387904) (hp:∀ a,p=some a→sz≤a.block):Ret prog 264 #[.slice p n cap] w (fun v w'=>IsF sz w' v (nat30 ds)):=by
 subst hn;exact (zMJ hcap hrd hdig hbig).mono fun v w' hx ⟨k,hk,hv,hn,he⟩=>⟨p,ds.take k,cap,by rw [hv];simp [Nat.min_eq_left hk],by simp;omega,(hrd.ext hx).take k,hn,he,hp⟩
theorem fSub_lt {x y:Nat} (hx:x<1073741824) (hy:y<1073741824) (hc:c≤1) (h:(x:Int)-c-y<0):(x:Int)-c-y+1073741824=((fSub x y c).1:Nat)∧(fSub x y c).2=1:=by
 simp only [fSub];rw [if_pos (by omega)];omega
theorem fSub_ge {x y:Nat} (hx:x<1073741824) (hy:y<1073741824) (hc:c≤1) (h:0≤(x:Int)-c-y):(x:Int)-c-y=((fSub x y c).1:Nat)∧(fSub x y c).2=0:=by
 simp only [fSub];rw [if_neg (by omega)];omega
theorem zLd {x y:Value} (hx:IsN w x m) (hy:IsN w y n) (hm:Fit m) (hle:n≤m):Ret prog 203 #[x,y] w (fun v w'=>IsF w.heap.size w' v (m-n)):=by
 obtain ⟨pa,xs,ca,rfl,hca,ha,hxn,hxv⟩:=hx;obtain ⟨pb,ys,cb,rfl,hcb,hb,hyn,hyv⟩:=hy;subst hxv;subst hyv;have hlx:=hxn.fit hm;have hll:ys.length≤xs.length:=by
  rcases Nat.lt_or_ge xs.length ys.length with h | h
  · have:=Norm.len_lt hxn.1 hyn h;omega
  · exact h
 have E0:Ext w w:=Ext.refl w;refine J0 44 func203 rfl (rj fun K=>ag (rm [0,1] K ?_));refine rJ fun K=>K1 (zG zl rfl ?_);refine K1 (zAJ zBD info2 rfl rfl rfl (by omega) (by omega) (by omega) fun b w1 hb1 hE hB hs => ?_);have hgb:w.heap.size≤b:=by rw [hb1];exact E0.size
 have hna:=ha.ne (Nat.le_of_eq hb1.symm);have hnb:=hb.ne (Nat.le_of_eq hb1.symm);replace E0:=E0.trans hE;replace ha:=ha.ext hE;replace hb:=hb.ext hE;clear hE hs hb1;rw [show ((xs.length:Nat):Int).toNat=xs.length from by omega,show (Value.int IntKind.i64 0).cells.toList=[Value.int IntKind.i64 0] from rfl,zAk] at hB;refine ag (rm [0,1,5] K ?_);refine rj fun K=>ag (rm [0,1,5,6] K ?_);refine zA (rj fun K=>ag (rm [0,1,5,6,7] K ?_));refine zD ?_;have hcl:=zCw hxn.1 hyn.1 (fd:=fSub) (fun x y c _ _ _=>zEC x y c);refine ze (X:=Nat) (fun i ρ w'=>Keep ρ [(0,.slice pa xs.length ca),(1,.slice pb ys.length cb),(5,.slice (some ⟨b,0,none⟩) xs.length xs.length),(6,.int .i64 ((zY fSub xs ys i).2:Nat)),(7,.int .i64 (i:Nat))]∧i≤xs.length∧Ext w w'∧Rd w' pa xs∧Rd w' pb ys∧Blk w' b 2 (dv ((zY fSub xs ys i).1++List.replicate (xs.length-i) 0))) (fun i=>xs.length-i) 0 ⟨(kp rfl),Nat.zero_le _,E0,ha,hb,hB⟩ ?_;clear E0 ha hb hB;rintro i ρ1 w1 ⟨hk,hil,E0,ha,hb,hB⟩;refine wpe_k _ hk ?_;clear hk ρ1;have hci:=hcl i;have hdx:=hxn.1.getD i;have hdy:=hyn.1.getD i;refine zA (rJ fun K=>mv (K1 (zG zl rfl (K8 rfl (rm [0,1,5,6,7,15] K ?_)))));refine K0 rfl ?_ ?_<;>intro hc
 · have hlt:i<xs.length:=t_lt hc;clear hc;obtain ⟨b2,o2,cs2,hpa2,hB2,hv2⟩:=ha i hlt;refine sk (zA (zD (rJ fun K=>mv (K1 (zE (b:=b2) (o:=o2) zl (congrArg (fun p=>Value.slice p xs.length ca) hpa2) rfl (by omega) (by omega) (K1 (zI zBS rfl hB2 (by simpa using hv2) (mv (K8 rfl (ag (rm [0,1,5,6,7,8] K ?_)))))))))));refine zBO (fun ρ w'=>Keep ρ [(0,.slice pa xs.length ca),(1,.slice pb ys.length cb),(5,.slice (some ⟨b,0,none⟩) xs.length xs.length),(7,.int .i64 (i:Nat)),(8,.int .i64 ((xs.getD i 0:Int)-(zY fSub xs ys i).2-ys.getD i 0))]∧w1=w') ?_ ?_
   · refine rJ fun K=>mv (K1 (zG zl rfl (K8 rfl (rm [0,1,5,6,7,8,27] K ?_))));refine K0 rfl ?_ ?_<;>intro hc
     · have hltb:i<ys.length:=t_lt hc;clear hc;obtain ⟨b3,o3,cs3,hpb3,hB3,hv3⟩:=hb i hltb;have hd2:IntKind.i64.wrap (IntKind.i64.wrap ((xs.getD i 0:Int)-((zY fSub xs ys i).2:Nat))-(ys.getD i 0:Nat))=(xs.getD i 0:Int)-(zY fSub xs ys i).2-ys.getD i 0:=by
        have e:IntKind.i64.wrap ((xs.getD i 0:Int)-((zY fSub xs ys i).2:Nat))=(xs.getD i 0:Int)-((zY fSub xs ys i).2:Nat):=zj (by omega) (by omega);rw [e,zj (by omega) (by omega)]
       exact rI fun K=>mv (mv (K1 (zE (b:=b3) (o:=o3) zl (congrArg (fun p=>Value.slice p ys.length cb) hpb3) rfl (by omega) (by omega) (K1 (zI zBS rfl hB3 (by simpa using hv3) (K8 rfl (ag (rl K (zP (⟨rfl,⟨rfl,rfl,rfl,rfl,rfl,rfl,rfl,rfl,rfl,congrArg (Value.int .i64) hd2,trivial⟩,rfl⟩))))))))))
     · have hltb:ys.length≤i:=f_lt hc;have hy0:ys.getD i 0=0:=zDi hltb;have hd1:IntKind.i64.wrap ((xs.getD i 0:Int)-((zY fSub xs ys i).2:Nat))=(xs.getD i 0:Int)-(zY fSub xs ys i).2-ys.getD i 0:=by
        rw [zj (by omega) (by omega),hy0];omega
       exact zm (zP (⟨rfl,⟨rfl,rfl,rfl,rfl,rfl,rfl,rfl,rfl,rfl,congrArg (Value.int .i64) hd1,trivial⟩,rfl⟩))
   · rintro ρ2 w2 ⟨hk,rfl⟩;refine wpe_k _ hk ?_;clear hk ρ2;refine rj fun K=>ag (rm [0,1,5,6,7,8] K ?_);refine zBO (fun ρ w'=>Keep ρ [(0,.slice pa xs.length ca),(1,.slice pb ys.length cb),(5,.slice (some ⟨b,0,none⟩) xs.length xs.length),(7,.int .i64 (i:Nat)),(6,.int .i64 ((zY fSub xs ys (i+1)).2:Nat)),(8,.int .i64 ((fSub (xs.getD i 0) (ys.getD i 0) (zY fSub xs ys i).2).1:Nat))]∧w1=w') ?_ ?_
     · refine rJ fun K=>K8 rfl (rm [0,1,5,6,7,8,35] K ?_);refine K0 rfl ?_ ?_<;>intro hc
       · have hneg:(xs.getD i 0:Int)-(zY fSub xs ys i).2-ys.getD i 0<0:=of_decide_eq_true hc;clear hc;have hd4:=fSub_lt hdx hdy hci hneg;have hd5:IntKind.i64.wrap ((xs.getD i 0:Int)-(zY fSub xs ys i).2-ys.getD i 0+1073741824)=((fSub (xs.getD i 0) (ys.getD i 0) (zY fSub xs ys i).2).1:Nat):=by rw [zj (by omega) (by omega)];exact hd4.1
         refine rJ fun K=>K8 rfl (ag (rm [0,1,5,6,7,8] K ?_));exact K6 fun K=>ag (rl K (zP (⟨rfl,⟨rfl,rfl,rfl,rfl,rfl,rfl,rfl,rfl,rfl,congrArg (fun n:Nat=>Value.int .i64 (n:Int)) hd4.2.symm,rfl,congrArg (Value.int .i64) hd5,trivial⟩,rfl⟩)))
       · have hneg:¬ (xs.getD i 0:Int)-(zY fSub xs ys i).2-ys.getD i 0<0:=of_decide_eq_false hc;have hd4:=fSub_ge hdx hdy hci (by omega);exact zm (zP (⟨rfl,⟨rfl,rfl,rfl,rfl,rfl,rfl,rfl,rfl,rfl,congrArg (fun n:Nat=>Value.int .i64 (n:Int)) hd4.2.symm,rfl,congrArg (Value.int .i64) hd4.1,trivial⟩,rfl⟩))
     · rintro ρ2 w2 ⟨hk,rfl⟩;refine wpe_k _ hk ?_;clear hk ρ2;refine rI fun K=>mv (mv (K1 (zE (b:=b) (o:=0) zl rfl rfl (by omega) (by omega) ?_)));refine K1 (zt size2 rfl hB rfl (by simp [zAF,zAE]<;>omega) (by decide) rfl fun w3 hU hN => ?_);refine rl K (zS (zN (K5 [0,1,5,6,7,8] ?_)));refine rI fun K=>K8 rfl (ag (rl K (zP ?_)));have h2:=zAj (i:=i) (d:=(fSub (xs.getD i 0) (ys.getD i 0) (zY fSub xs ys i).2).1) hN (by simp);rw [show xs.length-i=xs.length-(i+1)+1 from by omega,zOC] at h2;exact ⟨rfl,i+1,⟨⟨rfl,rfl,rfl,rfl,rfl,rfl,rfl,rfl,rfl,congrArg (Value.int .i64) (zx (by omega)),trivial⟩,by omega,E0.upd hU hgb,ha.upd' hU hna,hb.upd' hU hnb,h2⟩,by omega⟩
 · have hge:=f_lt hc;clear hc;obtain rfl:i=xs.length:=by omega
   rw [Nat.sub_self,List.replicate_zero,List.append_nil] at hB;refine zV (zv (zi (zL (zN (rj fun K=>mv ?_)))));refine K1 (j3 E0 ha.ext hb.ext hB.ext hb264 (zOP (sz:=w.heap.size) (ds:=(zY fSub xs ys xs.length).1) (by simp [zAE]) (Nat.le_refl _) (Rd.of_blk hB) (Dig.of_append (zMZ xs ys)) (by omega) (fun a e=>by cases e;exact hgb)) fun v14_1 w1 E0 ha hb hB hr => ?_);rw [zGz hxn.1 hyn.1 hll hle] at hr;refine ag (rm [0,1,4,5,6,7] K ?_);exact zB (en rfl E0 hr)
theorem minus_ok {x y:Value} (hx:IsN w x m) (hy:IsN w y n) (hm:Fit m) (hle:n≤m):Ret prog 203 #[x,y] w (fun v w'=>IsN w' v (m-n)):=(zLd hx hy hm hle).mono fun _ _ _ h=>h.isN
theorem mul_numR {x y:Nat} (hx:x<1073741824) (hy:y<1073741824) (ho:o<1073741824) (hc:c<1073741824) :
 c+x*y+o<1152921504606846976∧(c+x*y+o)/1073741824<1073741824∧(c+x*y+o)%1073741824+1073741824*((c+x*y+o)/1073741824)=x*y+o+c:=by
 have hxy:x*y≤1073741823*1073741823:=Nat.mul_le_mul (by omega) (by omega);generalize x*y=t at *;omega
theorem zHi {x y:Value} (hx:IsN w x m) (hy:IsN w y n) (hm:Fit m) (hn:Fit n):Ret prog 201 #[x,y] w (fun v w'=>IsN w' v (m*n)):=by
 obtain ⟨pa,xs,ca,rfl,hca,ha,hxn,hxv⟩:=hx;obtain ⟨pb,ys,cb,rfl,hcb,hb,hyn,hyv⟩:=hy;subst hxv;subst hyv;have hlx:=hxn.fit hm;have hly:=hyn.fit hn;have E0:Ext w w:=Ext.refl w;refine J0 63 func201 rfl (rj fun K=>ag (rm [0,1] K ?_));refine rJ fun K=>K1 (zG zl rfl (mv (K1 (zG zl rfl (K1 (za (xs.length+ys.length) rfl rfl rfl (by omega) ?_))))));refine K1 (zAJ zBD info2 rfl rfl rfl (by omega) (by omega) (by omega) fun b w1 hb1 hE hB hs => ?_);have hgb:w.heap.size≤b:=by rw [hb1];exact E0.size
 have hna:=ha.ne (Nat.le_of_eq hb1.symm);have hnb:=hb.ne (Nat.le_of_eq hb1.symm);replace E0:=E0.trans hE;replace ha:=ha.ext hE;replace hb:=hb.ext hE;clear hE hs hb1;rw [show ((xs.length+ys.length:Nat):Int).toNat=xs.length+ys.length from by omega,show (Value.int IntKind.i64 0).cells.toList=[Value.int IntKind.i64 0] from rfl,zAk] at hB;refine ag (rm [0,1,5] K ?_);refine zA (rj fun K=>ag (rm [0,1,5,6] K ?_));refine zD ?_;refine ze (X:=Nat) (fun i ρ w'=>Keep ρ [(0,.slice pa xs.length ca),(1,.slice pb ys.length cb),(5,.slice (some ⟨b,0,none⟩) (xs.length+ys.length) (xs.length+ys.length)),(6,.int .i64 (i:Nat))]∧i≤xs.length∧Ext w w'∧Rd w' pa xs∧Rd w' pb ys∧∃ O,O.length=xs.length+ys.length∧Dig O∧(∀ k,i+ys.length≤k→O.getD k 0=0)∧nat30 O=nat30 (xs.take i)*nat30 ys∧Blk w' b 2 (dv O)) (fun i=>xs.length-i) 0 ⟨(kp rfl),Nat.zero_le _,E0,ha,hb,List.replicate (xs.length+ys.length) 0,by simp,zBr _,fun k _=>zEV _ _,by rw [zGC];simp [nat30],hB⟩ ?_;clear E0 ha hb hB;rintro i ρ1 w1 ⟨hk,hil,E0,ha,hb,O,hO,hOd,hOz,hOn,hB⟩;refine wpe_k _ hk ?_;clear hk ρ1;refine zA (rJ fun K=>mv (K1 (zG zl rfl (K8 rfl (rm [0,1,5,6,18] K ?_)))));refine K0 rfl ?_ ?_<;>intro hc
 · have hlt:i<xs.length:=t_lt hc;clear hc;refine sk (zA (zD (rj fun K=>ag (rm [0,1,5,6,7] K ?_))));refine zA (rj fun K=>ag (rm [0,1,5,6,7,8] K ?_));refine zD ?_;refine ze (X:=Nat×Nat) (fun p ρ w'=>Keep ρ [(0,.slice pa xs.length ca),(1,.slice pb ys.length cb),(5,.slice (some ⟨b,0,none⟩) (xs.length+ys.length) (xs.length+ys.length)),(6,.int .i64 (i:Nat)),(7,.int .i64 (p.2:Nat)),(8,.int .i64 (p.1:Nat))]∧p.1≤ys.length∧p.2<1073741824∧Ext w w'∧Rd w' pa xs∧Rd w' pb ys∧∃ O,O.length=xs.length+ys.length∧Dig O∧(∀ k,i+ys.length≤k→O.getD k 0=0)∧nat30 O+1073741824^(i+p.1)*p.2=nat30 (xs.take i)*nat30 ys+1073741824^i*(xs.getD i 0*nat30 (ys.take p.1))∧Blk w' b 2 (dv O)) (fun p=>ys.length-p.1) (0,0) ⟨(kp rfl),Nat.zero_le _,by decide,E0,ha,hb,O,hO,hOd,fun k hk=>hOz k hk,by rw [hOn];simp [nat30],hB⟩ ?_;clear E0 ha hb hB hOn hOz hOd hO O;rintro ⟨j,c⟩ ρ1 w2 ⟨hk,hjl,hc,E0,ha,hb,O,hO,hOd,hOz,hOn,hB⟩;simp only at hk hjl hc hOn;refine wpe_k _ hk ?_;clear hk ρ1;refine zA (rJ fun K=>mv (K1 (zG zl rfl (K8 rfl (rm [0,1,5,6,7,8,24] K ?_)))));refine K0 rfl ?_ ?_<;>intro hc
   · have hc7:=hc;clear hc;rename _<1073741824=>hc;have hjlt:j<ys.length:=t_lt hc7;obtain ⟨b2,o2,cs2,hpa2,hB2,hv2⟩:=ha i hlt;obtain ⟨b3,o3,cs3,hpb3,hB3,hv3⟩:=hb j hjlt;obtain ⟨n1,n2,n3⟩:=mul_numR (hxn.1.getD i) (hyn.1.getD j) (hOd.getD (i+j)) hc;have hix:0+((i+j:Nat):Int).toNat*1=i+j:=by omega
     refine sk (zA (zD (zA (zCH mixed rfl rfl fun K hK=>qr rfl (fun wx hE=>zC ⟨rfl,Ext.refl _⟩) (qr rfl (fun wx hE=>zC ⟨rfl,Ext.refl _⟩) (qr rfl (fun wx hE=>zC ⟨rfl,Ext.refl _⟩) (qr rfl (fun wx hE=>zE (b:=b2) (o:=o2) zl (congrArg (fun p=>Value.slice p xs.length ca) hpa2) rfl (by omega) (by omega) ⟨rfl,Ext.refl _⟩) (qr rfl (fun wx hE=>zI zBS rfl (hB2.ext hE) (by simpa using hv2) ⟨rfl,Ext.refl _⟩) (qr rfl (fun wx hE=>zC ⟨rfl,Ext.refl _⟩) (qr rfl (fun wx hE=>zC ⟨rfl,Ext.refl _⟩) (qr rfl (fun wx hE=>zE (b:=b3) (o:=o3) zl (congrArg (fun p=>Value.slice p ys.length cb) hpb3) rfl (by omega) (by omega) ⟨rfl,Ext.refl _⟩) (qr rfl (fun wx hE=>zI zBS rfl (hB3.ext hE) (by simpa using hv3) ⟨rfl,Ext.refl _⟩) ?_))))))))))));refine qr rfl (fun wx hE=>zBi (xs.getD i 0*ys.getD j 0) rfl rfl rfl (by omega) ⟨rfl,Ext.refl _⟩) (qr rfl (fun wx hE=>za (c+xs.getD i 0*ys.getD j 0) rfl rfl rfl (by omega) ⟨rfl,Ext.refl _⟩) (qr rfl (fun wx hE=>zC ⟨rfl,Ext.refl _⟩) (qr rfl (fun wx hE=>zC ⟨rfl,Ext.refl _⟩) (qr rfl (fun wx hE=>zC ⟨rfl,Ext.refl _⟩) (qr rfl (fun wx hE=>za (i+j) rfl rfl rfl (by omega) ⟨rfl,Ext.refl _⟩) (qr rfl (fun wx hE=>zE (b:=b) (o:=0) (ix:=((i+j:Nat):Int)) zl rfl rfl (by omega) (by omega) ⟨rfl,Ext.refl _⟩) ?_))))))
     refine qr rfl (fun wx hE=>zI zBS rfl (hB.ext hE) (by rw [hix];exact zCW O (i+j) (by omega)) ⟨rfl,Ext.refl _⟩) ?_;refine qr rfl (fun wx hE=>za (c+xs.getD i 0*ys.getD j 0+O.getD (i+j) 0) rfl rfl rfl (by omega) ⟨rfl,Ext.refl _⟩) (qr rfl (fun wx hE=>zZ ⟨rfl,Ext.refl _⟩) (hK _ fun wq hE => ?_));replace E0:=E0.trans hE;replace ha:=ha.ext hE;replace hb:=hb.ext hE;replace hB:=hB.ext hE;replace hB2:=hB2.ext hE;replace hB3:=hB3.ext hE;clear hE;refine zN (K5 [0,1,5,6,7,8] ?_);refine rJ fun K=>mv (mv (K1 (za (i+j) rfl rfl rfl (by omega) (mv (K1 (zAP (b:=1073741824) ((c+xs.getD i 0*ys.getD j 0+O.getD (i+j) 0)%1073741824) rfl rfl (by decide) rfl (K1 (zE (b:=b) (o:=0) (ix:=((i+j:Nat):Int)) zl rfl rfl (by omega) (by omega) ?_))))))));refine K1 (zt size2 rfl hB rfl (by rw [hix,zAF];omega) (by decide) rfl fun w4 hU hN => ?_);refine rm [0,1,5,6,7,8] K ?_;refine rI fun K=>K1 (zAp (b:=1073741824) ((c+xs.getD i 0*ys.getD j 0+O.getD (i+j) 0)/1073741824) rfl rfl (by decide) rfl (by omega) (ag (rl K (zS (zN (K5 [0,1,5,6,7,8] ?_))))));refine rI fun K=>K8 rfl (ag (rl K (zP ?_)))
     exact ⟨rfl,(j+1,_),⟨⟨rfl,rfl,rfl,rfl,rfl,rfl,rfl,rfl,rfl,rfl,rfl,congrArg (Value.int .i64) (zx (by omega)),trivial⟩,by omega,n2,E0.upd hU hgb,ha.upd' hU hna,hb.upd' hU hnb,_,by simp [hO],hOd.set _ (Nat.mod_lt _ (by decide)),zMD hOz (by omega),by rw [zCd hjlt];exact zJu (by omega) hOn n3,zAj hN hix⟩,by simp only;omega⟩
   · have hc7:=hc;clear hc;rename _<1073741824=>hc;obtain rfl:j=ys.length:=by have:=f_lt hc7;omega
     have hix:0+((i+ys.length:Nat):Int).toNat*1=i+ys.length:=by omega
     have hO2:=hO;have hO2d:=hOd;have hO2z:=hOz;have hO2n:=hOn;rw [List.take_length] at hO2n;refine zV (zv (zi (zL (zN (rI fun K=>mv (mv (K1 (zG zl rfl (K1 (za (i+ys.length) rfl rfl rfl (by omega) (mv (K1 (zE (b:=b) (o:=0) (ix:=((i+ys.length:Nat):Int)) zl rfl rfl (by omega) (by omega) ?_)))))))))))));refine K1 (zt size2 rfl hB rfl (by rw [hix,zAF];omega) (by decide) rfl fun w4 hU hN => ?_);refine rl K (zS (zN (K5 [0,1,5,6,7,8] ?_)));exact rI fun K=>K8 rfl (ag (rl K (zP (⟨rfl,i+1,⟨⟨rfl,rfl,rfl,rfl,rfl,rfl,rfl,congrArg (Value.int .i64) (zx (by omega)),trivial⟩,by omega,E0.upd hU hgb,ha.upd' hU hna,hb.upd' hU hnb,_,by simp [hO2],hO2d.set _ hc,zLf hO2z,zIo (by omega) hO2n hO2z,zAj hN hix⟩,by omega⟩))))
 · have hge:=f_lt hc;obtain rfl:i=xs.length:=by omega
   clear hc;refine zV (zv (zi (zL (zN (rJ fun K=>K1 (j3 E0 ha.ext hb.ext hB.ext hb264 (zHL hO (Nat.le_refl _) (Rd.of_blk hB) hOd (by omega)) fun v13_1 w1 E0 ha hb hB hr => ?_))))));rw [hOn,List.take_length] at hr;refine ag (rm [0,1,4,5,6] K ?_);exact zB (en rfl E0 hr)
variable {N e:Nat} {O:List Nat}
theorem Rd.blk_take {L:List Nat} (h:Blk w b 2 (dv L)):Rd w (some ⟨b,0,none⟩) (L.take n):=(Rd.of_blk h).take n
theorem left_step {L:List Nat} {q f:Nat} (hq:q+i<L.length) (hn:nat30 (L.take (q+i))+1073741824^(q+i)*c=N+1073741824^q*(nat30 (xs.take i)*f)) :
 nat30 ((L.set (q+i) ((c+xs.getD i 0*f)%1073741824)).take (q+i+1))+1073741824^(q+i+1)*((c+xs.getD i 0*f)/1073741824)=N+1073741824^q*(nat30 (xs.take (i+1))*f):=by
 have hdm:=Nat.mod_add_div (c+xs.getD i 0*f) 1073741824;rw [nat30_take_succ',zBc hq,List.take_set_of_le (Nat.le_refl _),nat30_take_succ',Nat.pow_succ (m:=q+i)];generalize (c+xs.getD i 0*f)%1073741824=r at *;generalize (c+xs.getD i 0*f)/1073741824=s at *;have h2:1073741824^(q+i)*(r+1073741824*s)=1073741824^(q+i)*(c+xs.getD i 0*f):=by rw [hdm]
 rw [Nat.pow_add] at *;generalize 1073741824^q=A at *;generalize 1073741824^i=B at *;generalize nat30 (L.take (q+i))=X at *;generalize nat30 (xs.take i)=Y at *;generalize xs.getD i 0=x at *;grind
theorem left_end {L:List Nat} {q f:Nat} (hq:q+xs.length<L.length) (hn:nat30 (L.take (q+xs.length))+1073741824^(q+xs.length)*c=1073741824^q*(nat30 xs*f)) :
 nat30 ((L.set (q+xs.length) c).take (q+xs.length+1))=nat30 xs*(1073741824^q*f):=by
 rw [nat30_take_succ',zBc hq,List.take_set_of_le (Nat.le_refl _),hn];grind
theorem carry_lt {x f:Nat} (hx:x<1073741824) (hc:c<f) (hf:f≤1073741824):c+x*f<1152921504606846976∧(c+x*f)/1073741824<f:=by
 have h1:(x+1)*f≤1073741824*f:=Nat.mul_le_mul_right _ hx;rw [Nat.add_mul,Nat.one_mul] at h1;refine ⟨by omega,?_⟩;rw [Nat.div_lt_iff_lt_mul (by decide)];omega
theorem rdown_digit {x y:Nat} (hx:x<1073741824) (he:e<30) :
 x/2^e+y%2^e*(1073741824/2^e)<1073741824∧(x/2^e+y%2^e*(1073741824/2^e))*2^e+x%2^e=x+1073741824*(y%2^e):=by
 have hM:=zJE he;have hpe:0<2^e:=Nat.pow_pos (by decide);have hd:1073741824/2^e=2^(30-e):=Nat.div_eq_of_eq_mul_left hpe hM.symm;rw [hd];have hq:x/2^e<2^(30-e):=by rw [Nat.div_lt_iff_lt_mul hpe,hM];exact hx
 have hle:y%2^e*2^(30-e)+2^(30-e)≤1073741824:=by
  rw [← hM,← Nat.succ_mul,Nat.mul_comm (2^(30-e)) (2^e)];exact Nat.mul_le_mul_right _ (Nat.mod_lt y hpe)
 refine ⟨by omega,?_⟩;have h1:=Nat.div_add_mod x (2^e);rw [Nat.add_mul,Nat.mul_assoc,hM,Nat.mul_comm (y%2^e),Nat.mul_comm (x/2^e)];omega
theorem rdown_step (hO:O.length=xs.length) (hOd:Dig O) (hxd:Dig xs) (he:e<30) (hi:i<xs.length)
 (hn:nat30 (O.take i)*2^e+xs.getD 0 0%2^e=nat30 (xs.take i)+1073741824^i*(xs.getD i 0%2^e)) :
 ∃ d,xs.getD i 0/2^e+xs.getD (i+1) 0%2^e*(1073741824/2^e)=d∧d<1073741824∧xs.getD i 0/2^e<1073741824 ∧
  Dig (O.set i d)∧nat30 ((O.set i d).take (i+1))*2^e+xs.getD 0 0%2^e=nat30 (xs.take (i+1))+1073741824^(i+1)*(xs.getD (i+1) 0%2^e):=by
 have hx:=hxd.getD i;obtain ⟨d2,d3⟩:=rdown_digit (y:=xs.getD (i+1) 0) hx he;refine ⟨_,rfl,d2,Nat.lt_of_le_of_lt (Nat.div_le_self _ _) hx,hOd.set _ d2,?_⟩;generalize xs.getD i 0/2^e+xs.getD (i+1) 0%2^e*(1073741824/2^e)=D at *;rw [nat30_take_succ',zBc (by omega),List.take_set_of_le (by omega),nat30_take_succ',Nat.pow_succ];have k2:1073741824^i*(D*2^e+xs.getD i 0%2^e)=1073741824^i*(xs.getD i 0+1073741824*(xs.getD (i+1) 0%2^e)):=by rw [d3]
 rw [Nat.add_mul,Nat.mul_assoc (1073741824^i),Nat.mul_assoc (1073741824^i)];simp only [Nat.mul_add] at k2 ⊢;omega
theorem zKc {x:Value} (hxw:IsN w x m) (hm:Fit m) (hk:k<35184372088832):Ret prog 214 #[x,.int .i64 (k:Int)] w (fun v w'=>IsN w' v (m*2^k)):=by
 obtain ⟨pa,xs,ca,rfl,hca,ha,hx,hxv⟩:=hxw;subst hxv;have hlx:=hx.fit hm;have hp1:0<2^(k%30):=Nat.pow_pos (by decide);have hp2:2^(k%30)≤1073741824:=by
  have:=Nat.pow_le_pow_right (show 0<2 by decide) (show k%30≤30 by omega);simpa using this
 have E0:Ext w w:=Ext.refl w;refine J0 48 func214 rfl (rj fun K=>ag (rm [0,1] K ?_));refine rJ fun K=>K1 (zAp (b:=30) (k/30) rfl rfl (by decide) rfl (by omega) (mv (K1 (zG zl rfl (mv (K1 (zAp (b:=30) (k/30) rfl rfl (by decide) rfl (by omega) (K1 (za (xs.length+k/30) rfl rfl rfl (by omega) (K1 (za (b:=1) (xs.length+k/30+1) rfl rfl rfl (by omega) (K1 (runs_makeSliceC zBD info2 rfl rfl rfl (by omega) (by omega) (by omega) (by omega) fun b w1 hb1 hE hB hs => ?_)))))))))))));have hgb:w.heap.size≤b:=by rw [hb1];exact E0.size
 have hna:=ha.ne (Nat.le_of_eq hb1.symm);replace E0:=E0.trans hE;replace ha:=ha.ext hE;clear hE hs hb1;rw [show ((xs.length+k/30+1:Nat):Int).toNat=xs.length+k/30+1 from by omega,show (Value.int IntKind.i64 0).cells.toList=[Value.int IntKind.i64 0] from rfl,zAk] at hB;refine ag (rm [0,1,5] K ?_);refine rJ fun K=>K1 (zAP (b:=30) (k%30) rfl rfl (by decide) rfl (K1 (zFk (k%30) zOw zKl rfl (by omega) (K1 (zJo (a:=1) (2^(k%30)) rfl rfl (by omega) (Nat.one_mul _) (by omega) (ag (rm [0,5,6] K ?_)))))));refine rj fun K=>ag (rm [0,5,6,7] K ?_);refine zA (rj fun K=>ag (rm [0,5,6,7,8] K ?_));refine zD (ze (X:=Nat×Nat) (fun q ρ w'=>Keep ρ [(0,.slice pa xs.length ca),(5,.slice (some ⟨b,0,none⟩) (k/30+q.1) (xs.length+k/30+1)),(6,.int .i64 ((2^(k%30):Nat):Int)),(7,.int .i64 (q.2:Nat)),(8,.int .i64 (q.1:Nat))]∧q.1≤xs.length∧q.2<2^(k%30)∧Ext w w'∧Rd w' pa xs∧∃ L,L.length=(xs.length+k/30+1)∧Dig L∧nat30 (L.take (k/30+q.1))+1073741824^(k/30+q.1)*q.2=0+1073741824^(k/30)*(nat30 (xs.take q.1)*2^(k%30))∧Blk w' b 2 (dv L)) (fun q=>xs.length-q.1) (0,0) ⟨(kp rfl),Nat.zero_le _,hp1,E0,ha,List.replicate (xs.length+k/30+1) 0,by simp,zBr _,by simp [List.take_replicate,zGC,nat30],hB⟩ ?_);clear E0 ha hB
 rintro ⟨i,c⟩ ρ1 w1 ⟨hk,hil,hcf,E0,ha,L,hL,hLd,hLn,hB⟩;simp only at hk hil hcf hLn;refine wpe_k _ hk ?_;clear hk ρ1;refine zA (rJ fun K=>mv (K1 (zG zl rfl (K8 rfl (rm [0,5,6,7,8,25] K ?_)))));refine K0 rfl ?_ ?_<;>intro hc
 · have hlt:i<xs.length:=t_lt hc;clear hc;obtain ⟨b1,o1,cs1,hpa1,hB1,hv1⟩:=ha i hlt;obtain ⟨hc1,hc2⟩:=carry_lt (hx.1.getD i) hcf (by omega);have hix0:0+(k/30+i)*1=k/30+i:=by omega
   refine sk (zA (zD (rJ fun K=>mv (mv (K1 (zE (b:=b1) (o:=o1) zl (congrArg (fun p=>Value.slice p xs.length ca) hpa1) rfl (by omega) (by omega) (K1 (zI zBS rfl hB1 (by simpa using hv1) (mv (K1 (zBi (xs.getD i 0*2^(k%30)) rfl rfl rfl (by omega) (K1 (za (c+xs.getD i 0*2^(k%30)) rfl rfl rfl (by omega) (ag (rm [0,5,6,7,8] K ?_)))))))))))))));refine rJ fun K=>mv (K1 (zAP (b:=1073741824) ((c+xs.getD i 0*2^(k%30))%1073741824) rfl rfl (by decide) rfl ?_));refine K1 (zc (cs:=[.int .i64 (((c+xs.getD i 0*2^(k%30))%1073741824:Nat):Int)]) zBD info2' (by decide) (by decide) (by kernel_rfl) fun b2 w4 hb2 hE hB2 hs => ?_);have hne2:b≠b2:=by have:=hB.lt;omega
   replace E0:=E0.trans hE;replace ha:=ha.ext hE;replace hB:=hB.ext hE;clear hE hs hb2;refine K1 (zBC (b:=b) (o:=0) (new:=[.int .i64 (((c+xs.getD i 0*2^(k%30))%1073741824:Nat):Int)]) (n:=1) zBD zBD info2 rfl rfl hB (.inr ⟨b2,0,_,rfl,hB2,rfl⟩) rfl (by omega) (by rw [zAF,hL];omega) rfl fun w5 hU hN => ?_);replace E0:=E0.upd hU hgb;replace ha:=ha.upd' hU hna;clear hB hB2 hU;replace hN:=zAj (i:=k/30+i) hN (by omega);refine ag (rm [0,5,6,7,8] K ?_);refine rI fun K=>K1 (zAp (b:=1073741824) ((c+xs.getD i 0*2^(k%30))/1073741824) rfl rfl (by decide) rfl (by omega) (ag (rl K (zS (zN (K5 [0,5,6,7,8] ?_))))));refine rI fun K=>K8 rfl (ag (rl K (zP ?_)));exact ⟨rfl,(i+1,_),⟨⟨rfl,rfl,rfl,rfl,rfl,rfl,rfl,rfl,rfl,congrArg (Value.int .i64) (zx (by omega)),trivial⟩,by omega,hc2,E0,ha,_,by rw [List.length_set];exact hL,hLd.set _ (Nat.mod_lt _ (by decide)),left_step (by omega) hLn,hN⟩,by simp only;omega⟩
 · have hge:=f_lt hc;clear hc;obtain rfl:i=xs.length:=by omega
   rw [List.take_length,Nat.zero_add] at hLn;have hix0:0+(k/30+xs.length)*1=k/30+xs.length:=by omega
   refine zV (zv (zi (zL (zN (rJ fun K=>mv ?_)))));refine K1 (zc (cs:=[.int .i64 ((c:Nat):Int)]) zBD info2' (by decide) (by decide) (by kernel_rfl) fun b2 w4 hb2 hE hB2 hs => ?_);have hne2:b≠b2:=by have:=hB.lt;omega
   replace E0:=E0.trans hE;replace ha:=ha.ext hE;replace hB:=hB.ext hE;clear hE hs hb2;refine K1 (zBC (b:=b) (o:=0) (new:=[.int .i64 ((c:Nat):Int)]) (n:=1) zBD zBD info2 rfl rfl hB (.inr ⟨b2,0,_,rfl,hB2,rfl⟩) rfl (by omega) (by rw [zAF,hL];omega) rfl fun w5 hU hN => ?_);replace E0:=E0.upd hU hgb;replace ha:=ha.upd' hU hna;clear hB hB2 hU;replace hN:=zAj (i:=k/30+xs.length) hN (by omega);refine K1 (j0 E0 hb264 (zHL (ds:=(L.set (k/30+xs.length) c).take (k/30+xs.length+1)) (n:=k/30+xs.length+1) (cap:=xs.length+k/30+1) (by rw [List.length_take,List.length_set,hL];omega) (by omega) (Rd.blk_take hN) ((hLd.set _ (by omega)).take _) (by omega)) fun v10_4 w1 E0 hr => ?_);rw [left_end (by omega) hLn,zCM] at hr;refine ag (rm [0,4,5,6,7,8] K ?_);exact zB (en rfl E0 hr)
theorem zHh {x:Value} (hxw:IsN w x m) (hm:Fit m) (hk:k<4611686018427387904):Ret prog 250 #[x,.int .i64 (k:Int)] w (fun v w'=>IsN w' v (m/2^k)):=by
 obtain ⟨pa,ds,ca,rfl,hca,ha,hx,hxv⟩:=hxw;subst hxv;have hlx:=hx.fit hm;have hp1:0<2^(k%30):=Nat.pow_pos (by decide);have hp2:2^(k%30)≤1073741824:=by
  have:=Nat.pow_le_pow_right (show 0<2 by decide) (show k%30≤30 by omega);simpa using this
 have E0:Ext w w:=Ext.refl w;refine J0 64 func250 rfl (rj fun K=>ag (rm [0,1] K ?_));refine zA (rJ fun K=>K1 (zAp (b:=30) (k/30) rfl rfl (by decide) rfl (by omega) (mv (K1 (zG zl rfl (K8 rfl (rm [0,1,12] K ?_)))))));refine K0 rfl ?_ ?_<;>intro hc
 · have hge:ds.length≤k/30:=by have:=of_decide_eq_true hc;omega
   clear hc;refine rj fun K=>ag (rm [0,4] K ?_);exact zB (zU (en rfl E0 (IsN.nil (zIP hx.1 hge))))
 · have hlt:k/30<ds.length:=by have:=of_decide_eq_false hc;omega
   clear hc;obtain ⟨xs,pb,cb,hxl,hpb,hxr,hxd,hxv⟩:=zMV ha hx hca hlt;refine sk (rJ fun K=>mv (K1 (zAp (b:=30) (k/30) rfl rfl (by decide) rfl (by omega) (K1 (zDt zl rfl rfl (by omega) (by omega) ?_)))));rw [show ((k/30:Nat):Int).toNat=k/30 from by omega,hpb];refine ag (rm [0,1] K ?_);refine rJ fun K=>K1 (zG zl rfl ?_);refine K1 (zAJ zBD info2 rfl rfl rfl (by omega) (by omega) (by omega) fun ob w1 hb1 hE hB hs => ?_);have hgb:w.heap.size≤ob:=Nat.le_of_eq hb1.symm;replace E0:=E0.trans hE;clear hE hs hb1;rw [show ((xs.length:Nat):Int).toNat=xs.length from by omega,show (Value.int IntKind.i64 0).cells.toList=[Value.int IntKind.i64 0] from rfl,zAk] at hB;refine ag (rm [0,1,5] K ?_);refine rJ fun K=>K1 (zAP (b:=30) (k%30) rfl rfl (by decide) rfl (K1 (zFk (k%30) zOw zKl rfl (by omega) (K1 (zJo (a:=1) (2^(k%30)) rfl rfl (by omega) (Nat.one_mul _) (by omega) (ag (rm [0,5,6] K ?_)))))));refine zA (rj fun K=>ag (rm [0,5,6,7] K ?_))
   refine zD (ze (X:=Nat) (fun i ρ w'=>Keep ρ [(0,.slice pb xs.length cb),(5,.slice (some ⟨ob,0,none⟩) xs.length xs.length),(6,.int .i64 ((2^(k%30):Nat):Int)),(7,.int .i64 (i:Nat))]∧i≤xs.length∧Ext w w'∧∃ O,O.length=xs.length∧Dig O∧nat30 (O.take i)*2^(k%30)+xs.getD 0 0%2^(k%30)=nat30 (xs.take i)+1073741824^i*(xs.getD i 0%2^(k%30))∧Blk w' ob 2 (dv O)) (fun i=>xs.length-i) 0 ⟨(kp rfl),Nat.zero_le _,E0,List.replicate xs.length 0,by simp,zBr _,by simp [nat30],hB⟩ ?_);clear E0 hB;rintro i ρ1 w1 ⟨hk,hil,E0,O,hO,hOd,hOn,hB⟩;refine wpe_k _ hk ?_;clear hk ρ1;refine zA (rJ fun K=>mv (K1 (zG zl rfl (K8 rfl (rm [0,5,6,7,27] K ?_)))));refine K0 rfl ?_ ?_<;>intro hc
   · have hlt2:i<xs.length:=t_lt hc;clear hc;obtain ⟨b2,o2,cs2,hpa,hB2,hv2⟩:=(hxr.ext E0) i hlt2;have he30:k%30<30:=Nat.mod_lt _ (by decide);obtain ⟨d,e1,e2,e3,e4,e5⟩:=rdown_step hO hOd hxd he30 hlt2 hOn;have hix:(0:Nat)+((i:Nat):Int).toNat*1=i:=by omega
     refine sk (zA (zD (rJ fun K=>mv (mv (mv (K1 (zE (b:=b2) (o:=o2) zl (congrArg (fun p=>Value.slice p xs.length cb) hpa) rfl (by omega) (by omega) (K1 (zI zBS rfl hB2 (by simpa using hv2) (mv (K1 (zAp (xs.getD i 0/2^(k%30)) rfl rfl (Nat.ne_of_gt hp1) rfl (by omega) (K1 (zE (b:=ob) (o:=0) (ix:=((i:Nat):Int)) zl rfl rfl (by omega) (by omega) ?_))))))))))))));refine K1 (zt size2 rfl hB rfl (by rw [hix,zAF];omega) (by decide) rfl fun w4 hU hN => ?_);rw [hix] at hN;replace E0:=E0.upd hU hgb;clear hB;have hB:=zAj hN rfl;clear hN hU;refine rm [0,5,6,7] K ?_;refine rJ fun K=>K1 (za (b:=1) (i+1) rfl rfl rfl (by omega) (mv (K1 (zG zl rfl (K8 rfl (rm [0,5,6,7,43] K ?_))))));refine K0 rfl ?_ ?_<;>intro hc
     · have hlt3:i+1<xs.length:=t_lt hc;clear hc;obtain ⟨b3,o3,cs3,hpb3,hB3,hv3⟩:=(hxr.ext E0) (i+1) hlt3;have hix2:((i+1:Nat):Int).toNat*1=i+1:=by omega
       have hpd:xs.getD (i+1) 0%2^(k%30)*(1073741824/2^(k%30))≤d:=by rw [← e1];exact Nat.le_add_left _ _
       refine zGu ob mixed rfl rfl rfl hB fun K hK=>qs rfl (fun wx hE=>zC ⟨rfl,Ext.refl _⟩) (qs rfl (fun wx hE=>zC ⟨rfl,Ext.refl _⟩) (qs rfl (fun wx hE=>zC ⟨rfl,Ext.refl _⟩) (qs rfl (fun wx hE=>zC ⟨rfl,Ext.refl _⟩) (qs rfl (fun wx hE=>zE (b:=ob) (o:=0) (ix:=((i:Nat):Int)) zl rfl rfl (by omega) (by omega) ⟨rfl,Ext.refl _⟩) ?_))));refine qs rfl (fun wx hE=>zI zBS rfl (hB.ext hE) (by rw [hix];exact (zCW _ i (by simp;omega)).trans (congrArg (fun z:Nat=>some (Value.int .i64 (z:Int))) (zBc (by omega)))) ⟨rfl,Ext.refl _⟩) ?_;refine qs rfl (fun wx hE=>zC ⟨rfl,Ext.refl _⟩) (qs rfl (fun wx hE=>zC ⟨rfl,Ext.refl _⟩) (qs rfl (fun wx hE=>za (b:=1) (i+1) rfl rfl rfl (by omega) ⟨rfl,Ext.refl _⟩) (qs rfl (fun wx hE=>zE (b:=b3) (o:=o3) (ix:=((i+1:Nat):Int)) zl (congrArg (fun p=>Value.slice p xs.length cb) hpb3) rfl (by omega) (by omega) ⟨rfl,Ext.refl _⟩) ?_)));refine qs rfl (fun wx hE=>zI zBS rfl (hB3.ext hE) (by rw [hix2];exact hv3) ⟨rfl,Ext.refl _⟩) ?_;refine qs rfl (fun wx hE=>zC ⟨rfl,Ext.refl _⟩) (qs rfl (fun wx hE=>zAP (xs.getD (i+1) 0%2^(k%30)) rfl rfl (Nat.ne_of_gt hp1) rfl ⟨rfl,Ext.refl _⟩) (qs rfl (fun wx hE=>zC ⟨rfl,Ext.refl _⟩) ?_))
       refine qs rfl (fun wx hE=>zAp (a:=1073741824) (1073741824/2^(k%30)) rfl rfl (Nat.ne_of_gt hp1) rfl (by have:=Nat.div_le_self 1073741824 (2^(k%30));omega) ⟨rfl,Ext.refl _⟩) ?_;refine qs rfl (fun wx hE=>zBi (xs.getD (i+1) 0%2^(k%30)*(1073741824/2^(k%30))) rfl rfl rfl (by omega) ⟨rfl,Ext.refl _⟩) (qs rfl (fun wx hE=>za (d) rfl rfl e1 (by omega) ⟨rfl,Ext.refl _⟩) (qs rfl (fun wx hE=>zE (b:=ob) (o:=0) (ix:=((i:Nat):Int)) zl rfl rfl (by omega) (by omega) ⟨rfl,Ext.refl _⟩) ?_));refine zMr (dv ((O.set i (xs.getD i 0/2^(k%30))).set i d)) (fun wx hE hBx=>zt size2 rfl hBx rfl (by rw [hix,zAF];simp;omega) (by decide) rfl fun w3 hU hN=>⟨hU,zAj hN hix⟩) (hK _ _ fun wq hS hN => ?_);replace E0:=E0.updS hS hgb;clear hS hB;have hB:=hN;clear hN;rw [List.set_set] at hB;refine zS (zN (K5 [0,5,6,7] ?_));exact rI fun K=>K8 rfl (ag (rl K (zP (⟨rfl,i+1,⟨⟨rfl,rfl,rfl,rfl,rfl,rfl,rfl,congrArg (Value.int .i64) (zx (by omega)),trivial⟩,by omega,E0,_,by simp [hO],e4,e5,hB⟩,by omega⟩))))
     · have hge3:=f_lt hc;clear hc;rw [zDi hge3,Nat.zero_mod,Nat.zero_mul,Nat.add_zero] at e1;rw [e1] at hB;exact zm (zS (zN (rI fun K=>K8 rfl (ag (rl K (zP (⟨rfl,i+1,⟨⟨rfl,rfl,rfl,rfl,rfl,rfl,rfl,congrArg (Value.int .i64) (zx (by omega)),trivial⟩,by omega,E0,_,by simp [hO],e4,e5,hB⟩,by omega⟩)))))))
   · have hge:=f_lt hc;obtain rfl:i=xs.length:=by omega
     clear hc;rw [List.take_length,zDi (Nat.le_refl _),Nat.zero_mod,Nat.mul_zero,Nat.add_zero,List.take_of_length_le (by omega)] at hOn;refine zV (zv (zi (zL (zN (rJ fun K=>K1 (j0 E0 hb264 (zHL hO (Nat.le_refl _) (Rd.of_blk hB) hOd (by omega)) fun v12_1 w1 E0 hr => ?_))))));refine ag (rm [0,4,5,6,7] K ?_);refine zB (zQ ?_);rw [zKF hOn,hxv,zKM] at hr;exact ⟨rfl,_,zg rfl rfl,E0,hr⟩
variable {B nb t:Nat} {T T2:TypeId}
def Fits (n:Nat):Prop:=n.log2<1000000000000
theorem log2_lt_mul {l:Nat} (h:n.log2<l) (hc:c≤2^k):(n*c).log2<l+k:=by
 by_cases h0:n*c=0
 · rw [h0];simp;omega
 · have hn:n≠0:=fun e=>h0 (by rw [e,Nat.zero_mul]);rw [Nat.log2_lt h0,Nat.pow_add];rw [Nat.log2_lt hn] at h
   calc n*c≤n*2^k:=Nat.mul_le_mul_left _ hc
    _<2^l*2^k:=Nat.mul_lt_mul_of_pos_right h (Nat.pow_pos (by decide))
theorem Fits.fit (h:Fits n):Fit n:=Nat.lt_of_lt_of_le h (by decide)
theorem Fits.mul (h:Fits n) (hc:c≤2^200):Fit (n*c):=Nat.lt_of_lt_of_le (log2_lt_mul h hc) (by decide)
theorem Fits.le (h:Fits n) (hm:m≤n):Fits m:=Nat.lt_of_le_of_lt (zER hm) h
theorem Rd.cells {p:Option Addr} (h:Rd w p ds):Cells w p 2 (dv ds):=by
 by_cases h0:ds=[]
 · subst h0;exact .inl rfl
 · obtain ⟨b,o,cs,h1,h2,h3⟩:=h 0 (List.length_pos_iff.2 h0);refine .inr ⟨b,o,cs,h1,h2,?_⟩;apply List.ext_getElem?;intro i;rw [zAF];by_cases hi:i<ds.length
   · obtain ⟨b',o',cs',h1',h2',h3'⟩:=h i hi;rw [h1] at h1';cases h1';obtain ⟨-,rfl⟩:=h2.inj h2';rw [List.getElem?_take,if_pos hi,List.getElem?_drop,h3',zCW _ _ hi]
   · rw [List.getElem?_take,if_neg hi];simp [dv,hi]
section laws
variable {K:Value→World→Prop} {d:Option Tmp}
theorem runs_imaxN {x y:Operand} (c:Nat) (hx:σ x = .int .i64 (a:Int)) (hy:σ y = .int .i64 (b:Int)) (h:max a b=c) (hk:K (.int .i64 (c:Int)) w) :
 Runs P r ⟨d,.call { callee := .builtin .max,args := #[x,y],argTypes := #[T,T2] },ty,pos,af,g⟩ σ w K:=by
 refine zCG hx hy ?_;rw [show (if (a:Int)<(b:Int) then (b:Int) else (a:Int))=(c:Int) from by
  subst h;split<;>omega]
 exact hk
theorem zHG {x y:Operand} (c:Nat) (hx:σ x = .int .i64 (a:Int)) (hy:σ y = .int .i64 (b:Int)) (h:min a b=c) (hk:K (.int .i64 (c:Int)) w) :
 Runs P r ⟨d,.call { callee := .builtin .min,args := #[x,y],argTypes := #[T,T2] },ty,pos,af,g⟩ σ w K:=by
 refine zIC hx hy ((congrArg (fun z=>K (.int .i64 z) w) ?_).mpr hk);subst h;split<;>omega
theorem runs_consR {x y:Operand} {sz:Nat} (hx:σ x = .slice (some ⟨b,0,none⟩) 1 1) (hB:Blk w b 2 [.int .i64 (a:Int)]) (hsz:sz≤b) (hy:IsN w (σ y) n) (ha:a<1073741824) (hn:Fit n)
 (hk:∀ v w',Ext w w'→(∃ p ds cap,v = .slice p ds.length cap∧ds.length≤cap∧ds.length<4611686018427387904∧Rd w' p ds∧Dig ds∧nat30 ds=a+1073741824*n∧∀ q,p=some q→sz≤q.block)→K v w') :
 Runs prog r ⟨d,.call { callee := .builtin .append,args := #[x,y],argTypes := #[48,48] },ty,pos,af,g⟩ σ w K:=by
 obtain ⟨p,ds,cap,e1,h2,h3,h4,h5⟩:=hy;subst h5;have hl:=h4.fit hn;have hB':Blk w b 2 (dv [a]):=hB;by_cases h0:ds=[]
 · subst h0;refine zFG zBD zBD info2 hx e1 (Nat.le_refl _) ?_;refine hk _ _ (Ext.refl _) ⟨_,[a],1,rfl,Nat.le_refl _,by simp,Rd.of_blk hB',by intro d hd;simp at hd;omega,by simp [nat30],fun q hq=>by cases hq;exact hsz⟩
 · have hl0:0<ds.length:=List.length_pos_iff.2 h0;have hnew:=zAi (1+ds.length) 1;refine zAW zBD zBD info2 rfl (by decide) hx e1 (Cells.blk hB') (by simp [zAF]) h3.cells (by simp [zAF]) (by omega) (by omega) fun w' rest c' g1 hE hBn g2 _ => ?_;refine hk _ _ hE ⟨_,a :: ds,c',by rw [List.length_cons,Nat.add_comm],by rw [List.length_cons];omega,by rw [List.length_cons];omega,?_,?_,rfl,fun q hq=>by cases hq;exact Nat.le_trans hsz (Nat.le_of_lt hB.lt)⟩
   · intro i hi;refine ⟨_,0,_,rfl,hBn,?_⟩;rw [Nat.zero_add,List.getElem?_append_left (by simp [zAF] at hi ⊢;omega)];exact zCW (a :: ds) i hi
   · intro d hd;rcases List.mem_cons.1 hd with rfl | hd
     · exact ha
     · exact h4.1 d hd
end laws
theorem top1 {R:List Nat} {l:Nat} (hl:l<R.length):R.getD l 0*1073741824^l≤nat30 R:=by
 rw [zBn R l,Nat.min_eq_left (Nat.le_of_lt hl),zBh hl,Nat.mul_add,Nat.mul_comm (R.getD l 0)];omega
theorem top2 {R:List Nat} {l:Nat} (hl:l+1<R.length):(R.getD l 0+R.getD (l+1) 0*1073741824)*1073741824^l≤nat30 R:=by
 rw [zBn R l,Nat.min_eq_left (by omega),zBh (by omega),zBh hl,Nat.mul_comm _ (1073741824^l)];refine Nat.le_trans (Nat.mul_le_mul_left _ ?_) (Nat.le_add_left _ _);omega
theorem topb {l:Nat} (hd:Dig ys) (hl:ys.length=l+1):nat30 ys≤(ys.getD l 0+1)*1073741824^l:=by
 rw [zBn ys l,Nat.min_eq_left (by omega),zBh (by omega),List.drop_of_length_le (by omega),Nat.add_mul,Nat.one_mul,Nat.mul_comm (ys.getD l 0)];have:=zCe _ (hd.take l);rw [List.length_take,Nat.min_eq_left (by omega)] at this;simp only [nat30,Nat.mul_zero,Nat.add_zero];omega
theorem est {r:Nat} (h1:t*B≤r) (h2:nb≤r) (h3:nb≤(b+1)*B):max (t/(b+1)) 1*nb≤r:=by
 rcases Nat.le_total (t/(b+1)) 1 with h | h
 · rw [Nat.max_eq_right h,Nat.one_mul];exact h2
 · rw [Nat.max_eq_left h];have e1:=Nat.mul_le_mul_left (t/(b+1)) h3;rw [← Nat.mul_assoc] at e1;have e2:=Nat.mul_le_mul_right B (Nat.div_mul_le_self t (b+1));omega
theorem quo_lt {q d r R:Nat} (h:q*nb+r=R) (hd:d*nb≤r) (hR:R<1073741824*nb):q+d<1073741824:=by
 have:(q+d)*nb<1073741824*nb:=by rw [Nat.add_mul];omega
 exact Nat.lt_of_mul_lt_mul_right this
theorem quo_next {q d r R:Nat} (h:q*nb+r=R) (hd:d*nb≤r):(q+d)*nb+(r-nb*d)=R:=by
 rw [Nat.add_mul,Nat.mul_comm nb d];omega
theorem quo_end {Q r:Nat} (h:m*2^s=Q*(n*2^s)+r) (hr:r<n*2^s):Q=m/n∧r/2^s=m%n:=by
 have hp:0<2^s:=Nat.pow_pos (by decide);have h1:Q*n≤m:=by
  rw [← Nat.mul_assoc] at h;exact Nat.le_of_mul_le_mul_right (show Q*n*2^s≤m*2^s by omega) hp
 have h2:r=(m-Q*n)*2^s:=by
  rw [Nat.sub_mul,h,← Nat.mul_assoc];omega
 have h3:m-Q*n<n:=Nat.lt_of_mul_lt_mul_right (a:=2^s) (by rw [← h2];exact hr);have hn:0<n:=by omega
 have h4:m=n*Q+(m-Q*n):=by rw [Nat.mul_comm n Q];omega
 rw [h2,Nat.mul_div_cancel _ hp];generalize m-Q*n=t at *;subst h4;rw [Nat.mul_add_div hn,Nat.div_eq_of_lt h3,Nat.mul_add_mod,Nat.mod_eq_of_lt h3];simp
theorem zCs {x y:Value} (hx:IsN w x m) (hy:IsN w y n) (hmF:Fits m) (hnF:Fits n) (hn0:n≠0):Ret prog 247 #[x,y] w (fun v w'=>∃ q r,v = .tuple #[q,r]∧IsN w' q (m/n)∧IsN w' r (m%n)):=by
 obtain ⟨s,hs⟩:∃ s,(30-bitsN n%30)%30=s:=⟨_,rfl⟩;have hs30:s<30:=by omega
 have hp30:2^s≤2^200:=Nat.pow_le_pow_right (by decide) (by omega);have hp31:1073741824*2^s≤2^200:=by
  have:=Nat.pow_le_pow_right (show 0<2 by decide) (show 30+s≤200 by omega);rw [Nat.pow_add] at this;exact this
 have E0:Ext w w:=Ext.refl w;refine J0 98 func247 rfl (rj fun K=>ag (ag (rm [0,1] K ?_)));refine zA (rJ fun K=>mv (K1 (j2 E0 hx.ext hy.ext hb202 (zKa hx hy hmF.fit hnF.fit) fun vo w1 E0 hx hy hr => ?_)));obtain ⟨c0,rfl,hcmp⟩:=hr;refine K8 rfl (rm [0,1,16] K ?_);refine K0 rfl ?_ ?_<;>intro hc
 · have hlt:m<n:=hcmp.1.1 (of_decide_eq_true hc);refine rJ fun K=>ag (ag (rm [0,1,4,5] K ?_));refine zB (zU (zQ ?_));exact ⟨rfl,_,zo rfl rfl rfl,E0,_,_,rfl,IsN.nil (Nat.div_eq_of_lt hlt),by rw [Nat.mod_eq_of_lt hlt];exact hx⟩
 · have hge:¬ m<n:=fun h=>of_decide_eq_false hc (hcmp.1.2 h);clear hc hcmp;refine sk (rJ fun K=>K1 (j2 E0 hx.ext hy.ext hb308 (length_ok hy hnF.fit) fun vl w2 E0 hx hy hr => ?_));subst hr;refine K1 (zAP (b:=30) (bitsN n%30) rfl rfl (by decide) rfl (K1 (zAM (a:=30) (30-bitsN n%30) rfl rfl (by omega) (by decide) (K1 (zAP (b:=30) (s) rfl rfl (by decide) hs (ag (rm [0,1,6] K ?_)))))));refine rJ fun K=>mv (K1 (j2 E0 hx.ext hy.ext hb214 (zKc hx hmF.fit (by omega)) fun vA w3 E0 hx hy hA=>mv (mv (K1 (j3 E0 hx.ext hy.ext hA.ext hb214 (zKc hy hnF.fit (by omega)) fun vb w4 E0 hx hy hA hb1 => ?_)))));obtain ⟨pA,A,cA,rfl,hcA,ha,hAn,hAv⟩:=hA;obtain ⟨pb,ys,cb,rfl,hcb,hb,hyn,hyv⟩:=hb1;have hAl:=hAn.fit (by rw [hAv];exact hmF.mul hp30);have hyl:=hyn.fit (by rw [hyv];exact hnF.mul hp30);have hfy:Fit (nat30 ys):=by rw [hyv];exact hnF.mul hp30
   have hy0:0<nat30 ys:=by rw [hyv];exact Nat.mul_pos (by omega) (Nat.pow_pos (by decide))
   have hfb:∀ r,r≤1073741824*nat30 ys→Fit r:=fun r hr=>Fit.le (n:=n*(1073741824*2^s)) (hnF.mul hp31) (by rw [hyv] at hr;grind);obtain ⟨l,hl⟩:∃ l,ys.length=l+1:=⟨ys.length-1,by
    have:ys≠[]:=fun e=>by rw [e] at hy0;exact absurd hy0 (by decide)
    have:=List.length_pos_iff.2 this;omega⟩
   clear hx hy;refine ag (ag (rm [0,1,6] K ?_));refine rJ fun K=>K1 (zG zl rfl (ag (rm [0,1,6,7] K ?_)));refine rJ fun K=>K1 (zG zl rfl ?_);refine K1 (zAJ zBD info2 rfl rfl rfl (by omega) (by omega) (by omega) fun b w1 hb1 hE hB hs => ?_);have hgb:w.heap.size≤b:=by rw [hb1];exact E0.size
   have hna:=ha.ne (Nat.le_of_eq hb1.symm);have hnb:=hb.ne (Nat.le_of_eq hb1.symm);replace E0:=E0.trans hE;replace ha:=ha.ext hE;replace hb:=hb.ext hE;clear hE hs hb1;rw [show ((A.length:Nat):Int).toNat=A.length from by omega,show (Value.int IntKind.i64 0).cells.toList=[Value.int IntKind.i64 0] from rfl,zAk] at hB;refine ag (rm [0,1,6,7,8] K ?_);refine rj fun K=>ag (rm [0,1,6,7,8,9] K ?_);refine zA (rJ fun K=>K1 (zG zl rfl (K8 rfl (ag (rm [0,1,6,7,8,9,10] K ?_)))));refine zD ?_;refine ze (X:=Nat) (fun k ρ w'=>∃ vr r Q,Keep ρ [(0,.slice pA A.length cA),(1,.slice pb ys.length cb),(6,.int .i64 (s:Nat)),(7,.int .i64 (ys.length:Nat)),(8,.slice (some ⟨b,0,none⟩) A.length A.length),(9,vr),(10,.int .i64 (((k:Nat):Int)-1))]∧k≤A.length∧Q.length=A.length∧Dig Q∧(∀ j,j<k→Q.getD j 0=0)∧nat30 (A.drop k)=nat30 (Q.drop k)*nat30 ys+r∧r<nat30 ys∧IsF (b+1) w' vr r∧Ext w w'∧Rd w' pA A∧Rd w' pb ys∧Blk w' b 2 (dv Q)) (fun k=>k) A.length ⟨.slice none 0 0,0,List.replicate A.length 0,⟨rfl,rfl,rfl,rfl,rfl,rfl,rfl,rfl,rfl,rfl,rfl,rfl,rfl,congrArg (Value.int .i64) (zj (by omega) (by omega)),trivial⟩,Nat.le_refl _,by simp,zBr _,fun j _=>zEV _ _,by rw [List.drop_length,List.drop_of_length_le (by simp)];simp [nat30],hy0,IsF.nil,E0,ha,hb,hB⟩ ?_;clear E0 ha hb hB
   rintro k ρ1 w1 ⟨vr,r,Q,hk,hkl,hQl,hQd,hQz,hQn,hrlt,hr0,E0,ha,hb,hB⟩;refine wpe_k _ hk ?_;clear hk ρ1;refine zA (zA ?_);rcases k with _ | k
   · skip
     refine rI fun K=>K8 rfl (rs [0,1,6,7,8,9,10,38] K ?_);refine wcf rfl (zV (zv (zi (zL (zN (rJ fun K=>K1 (j4 E0 ha.ext hb.ext hB.ext hr0.ext hb264 (zHL hQl (Nat.le_refl _) (Rd.of_blk hB) hQd (by omega)) fun vq w5 E0 ha hb hB hr0 hq=>mv (mv (K1 (j5 E0 ha.ext hb.ext hB.ext hr0.ext hq.ext hb250 (zHh hr0.isN (hfb r (by omega)) (by omega)) fun vm w6 E0 ha hb hB hr0 hq hm=>ag (ag (rm [0,1,4,5,6,7,8,10] K ?_))))))))))));refine zB (zQ ?_);simp only [List.drop_zero] at hQn;rw [hAv,hyv] at hQn;rw [hyv] at hrlt;obtain ⟨e1,e2⟩:=quo_end hQn hrlt;rw [e1] at hq;rw [e2] at hm;exact ⟨rfl,_,zo rfl rfl rfl,E0,_,_,rfl,hq,hm⟩
   · obtain ⟨b1,o1,cs1,hpa1,hB1,hv1⟩:=ha k (by omega);have hk0:decide ((((k+1:Nat):Int)-1)≥0)=true:=by simp only [decide_eq_true_eq];omega
     have hkn:(((k+1:Nat):Int)-1).toNat=k:=by omega
     have hk1:((k+1:Nat):Int)-1=(k:Int):=by omega
     have hadk:=hAn.1.getD k;rw [hk1];refine rI fun K=>K8 rfl (rs [0,1,6,7,8,9,10,38] K ?_);refine wct (congrArg Value.bool (decide_eq_true (show (k:Int)≥0 by omega))) (sk (zA (zD (rJ fun K=>mv (K1 (zE (b:=b1) (o:=o1) zl (congrArg (fun p=>Value.slice p A.length cA) hpa1) rfl (by omega) (by omega) (K1 (zI zBS rfl hB1 (by simpa using hv1) ?_))))))));refine K1 (zc (cs:=[.int .i64 ((A.getD k 0:Nat):Int)]) zBD info2' (by decide) (by decide) (by kernel_rfl) fun b2 w2 hb2 hE hB2 hs => ?_);have hbb2:b+1≤b2:=by have:=hB.lt;omega
     replace E0:=E0.trans hE;replace ha:=ha.ext hE;replace hb:=hb.ext hE;replace hB:=hB.ext hE;replace hr0:=hr0.ext hE;clear hE hs hb2 hB1;refine mv (K1 (runs_consR rfl hB2 hbb2 hr0.isN hadk (hfb r (by omega)) fun v w3 hE hv => ?_));obtain ⟨p3,ds3,cap3,rfl,hc3,hl3,hrd3,hd3,hn3,hp3⟩:=hv;replace E0:=E0.trans hE;replace ha:=ha.ext hE;replace hb:=hb.ext hE;replace hB:=hB.ext hE;replace hr0:=hr0.ext hE;clear hE hB2;refine K1 (j4 E0 ha.ext hb.ext hB.ext hr0.ext hb264 (zOP rfl hc3 hrd3 hd3 hl3 hp3) fun vr1 w5 E0 ha hb hB hr0 hr1 => ?_);rw [hn3] at hr1;clear hrd3 hr0;refine ag (rm [0,1,6,7,8,9,10] K ?_);refine zD ?_;obtain ⟨R0,hR0⟩:∃ R0,A.getD k 0+1073741824*r=R0:=⟨_,rfl⟩;have hAk:A.getD k 0+1073741824*nat30 (A.drop (k+1))=1073741824*(nat30 (Q.drop (k+1))*nat30 ys)+R0:=by rw [hQn,← hR0];omega
     have hRlt:R0<1073741824*nat30 ys:=by omega
     obtain ⟨Qh,hQh0⟩:∃ Qh,nat30 (Q.drop (k+1))=Qh:=⟨_,rfl⟩;rw [hQh0] at hAk;rw [hR0] at hr1;refine ze (X:=Nat) (fun r ρ w'=>∃ vr Q,Keep ρ [(0,.slice pA A.length cA),(1,.slice pb ys.length cb),(6,.int .i64 (s:Nat)),(7,.int .i64 (ys.length:Nat)),(8,.slice (some ⟨b,0,none⟩) A.length A.length),(9,vr),(10,.int .i64 ((k:Nat):Int))]∧Q.length=A.length∧Dig Q∧(∀ j,j<k→Q.getD j 0=0)∧nat30 (Q.drop (k+1))=Qh∧Q.getD k 0*nat30 ys+r=R0∧IsF (b+1) w' vr r∧Ext w w'∧Rd w' pA A∧Rd w' pb ys∧Blk w' b 2 (dv Q)) (fun r=>r) R0 ⟨vr1,Q,(kp rfl),hQl,hQd,fun j hj=>hQz j (by omega),hQh0,by rw [hQz k (by omega)];omega,hr1,E0,ha,hb,hB⟩ ?_;clear E0 ha hb hB hr1 hQz hQd hQl hQn hQh0 hv1
     try clear Q
     rintro r1 ρ1 w4 ⟨vr1,Q,hk,hQl,hQd,hQz,hQh,hQr,hr0,E0,ha,hb,hB⟩;refine wpe_k _ hk ?_;clear hk ρ1;refine zA (rJ fun K=>mv (K1 (j4 E0 ha.ext hb.ext hB.ext hr0.ext hb202 (zKa hr0.isN ⟨pb,ys,cb,rfl,hcb,hb,hyn,rfl⟩ (hfb r1 (by omega)) hfy) fun vo w4b E0 ha hb hB hr0 hr => ?_)));obtain ⟨c1,rfl,hcmp⟩:=hr;refine K8 rfl (rm [0,1,6,7,8,9,10,52] K ?_);refine K0 rfl ?_ ?_<;>intro hc
     · have hge1:nat30 ys≤r1:=by
        have:=of_decide_eq_true hc;rcases Nat.lt_or_ge r1 (nat30 ys) with h | h
        · have:=hcmp.1.2 h;omega
        · exact h
       clear hc hcmp;obtain ⟨pr,R,cr,rfl,hcr,hrr,hRn,hRv,hpr⟩:=hr0;have hlR:l<R.length:=by
        rcases Nat.lt_or_ge l R.length with h | h
        · exact h
        · have:=Norm.len_lt hRn.1 hyn (by omega);omega
       have hlw:IntKind.i64.wrap ((((ys.length:Nat):Nat):Int)-1)=(l:Int):=by rw [zj (by omega) (by omega)];omega
       have hRl:=hRn.fit (by rw [hRv];exact hfb r1 (by omega));obtain ⟨b3,o3,cs3,hp3,hB3,hv3⟩:=hrr l hlR;have hdl:=hRn.1.getD l;refine sk (zD (rJ fun K=>mv (K1 (zAM (b:=1) (l) rfl rfl (by omega) (by omega) (K1 (zE (b:=b3) (o:=o3) zl (congrArg (fun p=>Value.slice p R.length cr) hp3) rfl (by omega) (by omega) (K1 (zI zBS rfl hB3 (by simpa using hv3) (ag (rm [0,1,6,7,8,9,10,11] K ?_))))))))));refine zBO (fun ρ w'=>∃ top:Nat,Keep ρ [(0,.slice pA A.length cA),(1,.slice pb ys.length cb),(6,.int .i64 (s:Nat)),(7,.int .i64 (ys.length:Nat)),(8,.slice (some ⟨b,0,none⟩) A.length A.length),(9,.slice pr R.length cr),(10,.int .i64 ((k:Nat):Int)),(11,.int .i64 (top:Nat))]∧w4b=w'∧top*1073741824^l≤r1∧top<1152921504606846976) ?_ ?_
       · refine rJ fun K=>K1 (zG zl rfl (mv (K8 rfl (rm [0,1,6,7,8,9,10,11,61] K ?_))));refine K0 rfl ?_ ?_<;>intro hc
         · have hlR2:l+1<R.length:=by have:=t_lt hc;omega
           clear hc;obtain ⟨b4,o4,cs4,hp4,hB4,hv4⟩:=hrr (l+1) hlR2;have hdl1:=hRn.1.getD (l+1);have htop:(R.getD l 0+R.getD (l+1) 0*1073741824)*1073741824^l≤r1:=by rw [← hRv];exact top2 hlR2
           have htopl:R.getD l 0+R.getD (l+1) 0*1073741824<1152921504606846976:=by omega
           refine rI fun K=>mv (mv (K1 (zE (b:=b4) (o:=o4) zl (congrArg (fun p=>Value.slice p R.length cr) hp4) rfl (by omega) (by omega) ?_)));refine K1 (zI zBS rfl hB4 (by rw [show ((ys.length:Nat):Int).toNat*1=l+1 from by omega];exact hv4) ?_);exact K1 (zBi (b:=1073741824) (R.getD (l+1) 0*1073741824) rfl rfl rfl (by omega) (K1 (za (R.getD l 0+R.getD (l+1) 0*1073741824) rfl rfl rfl (by omega) (ag (rl K (zP ⟨rfl,_,(kp rfl),rfl,htop,htopl⟩))))))
         · refine zm (zP ?_);exact ⟨rfl,_,(kp rfl),rfl,by rw [← hRv];exact top1 hlR,Nat.lt_trans hdl (by decide)⟩
       · rintro ρ2 w2 ⟨top,hk,rfl,htop,htopl⟩;refine wpe_k _ hk ?_;clear hk ρ2;obtain ⟨b5,o5,cs5,hp5,hB5,hv5⟩:=hb l (by omega);have hdy:=hyn.1.getD l;have hest:=est htop hge1 (topb hyn.1 hl);have hqlt:=quo_lt hQr hest hRlt;have hdlt:max (top/(ys.getD l 0+1)) 1<1152921504606846976:=by
          have:=Nat.div_le_self top (ys.getD l 0+1);omega
         refine rJ fun K=>mv (mv (K1 (zAM (b:=1) (l) rfl rfl (by omega) (by omega) (K1 (zE (b:=b5) (o:=o5) zl (congrArg (fun p=>Value.slice p ys.length cb) hp5) rfl (by omega) (by omega) (K1 (zI zBS rfl hB5 (by simpa using hv5) (K1 (za (b:=1) (ys.getD l 0+1) rfl rfl rfl (by omega) ?_)))))))));refine K1 (zAp (top/(ys.getD l 0+1)) rfl rfl (by omega) rfl (by have:=Nat.div_le_self top (ys.getD l 0+1);omega) ?_);refine K1 (runs_imaxN (b:=1) (max (top/(ys.getD l 0+1)) 1) rfl rfl rfl (ag (rm [0,1,6,7,8,9,10,12] K ?_)));refine rJ fun K=>mv (mv (mv (K1 (zE (b:=b) (o:=0) zl rfl rfl (by omega) (by omega) ?_))));refine K1 (zI zBS rfl hB (by rw [show 0+((k:Nat):Int).toNat*1=k from by omega];exact zCW Q k (by omega)) ?_);refine mv (K1 (za (Q.getD k 0+max (top/(ys.getD l 0+1)) 1) rfl rfl rfl (by omega) (K1 (zE (b:=b) (o:=0) zl rfl rfl (by omega) (by omega) ?_))));refine K1 (zt size2 rfl hB rfl (by rw [show 0+((k:Nat):Int).toNat*1=k from by omega,zAF];omega) (by decide) rfl fun w5 hU hN => ?_);have hblt:=hB.lt;have hr9:IsF (b+1) w5 (.slice pr R.length cr) r1:=IsF.upd ⟨pr,R,cr,rfl,hcr,hrr,hRn,hRv,hpr⟩ hU (by omega);replace E0:=E0.upd hU hgb;replace ha:=ha.upd' hU hna;replace hb:=hb.upd' hU hnb;replace hB:=zAj (i:=k) hN (by omega);clear hU hN hB5 hrr
         refine rm [0,1,6,7,8,9,10,12] K ?_;refine rI fun K=>mv (mv (K1 (j4 E0 ha.ext hb.ext hB.ext hr9.ext hb248 (zDq hdlt) fun vd w7 E0 ha hb hB hr9 hd=>K1 (j5 E0 ha.ext hb.ext hB.ext hr9.ext hd.ext hb201 (zHi ⟨pb,ys,cb,rfl,hcb,hb,hyn,rfl⟩ hd hfy (Fits.fit (Nat.lt_of_le_of_lt (zER (Nat.le_of_lt hdlt)) (by decide +kernel)))) fun vt w8 E0 ha hb hB hr9 hd ht => ?_))));have hszb:=hB.lt;refine K1 (j6 E0 ha.ext hb.ext hB.ext hr9.ext hd.ext ht.ext hb203 (zLd hr9.isN ht (hfb r1 (by omega)) (by rw [Nat.mul_comm];exact hest)) fun vm w9 E0 ha hb hB hr9 hd ht hr2 => ?_);refine ag (rl K (zS (zP ?_)));refine ⟨rfl,r1-nat30 ys*max (top/(ys.getD l 0+1)) 1,⟨_,_,(kp rfl),by rw [List.length_set];exact hQl,hQd.set _ hqlt,fun j hj=>(getD_set_ne (by omega)).trans (hQz j hj),by rw [List.drop_set_of_lt (by omega)];exact hQh,by rw [zBc (by omega)];exact quo_next hQr hest,hr2.mono hszb,E0,ha,hb,hB⟩,?_⟩;have h1:1*1≤nat30 ys*max (top/(ys.getD l 0+1)) 1:=Nat.mul_le_mul hy0 (Nat.le_max_right _ _);rw [Nat.mul_comm] at hest;omega
     · have hrlt:r1<nat30 ys:=by
        have:=of_decide_eq_false hc;rcases Nat.lt_or_ge r1 (nat30 ys) with h | h
        · exact h
        · exfalso;have h1:=hcmp.1;have h2:=hcmp.2;omega
       clear hc hcmp;refine zV (zv (zi (zL (zS (zN (rI fun K=>K8 rfl (ag (rl K (zP (⟨rfl,k,⟨vr1,r1,Q,⟨rfl,rfl,rfl,rfl,rfl,rfl,rfl,rfl,rfl,rfl,rfl,rfl,rfl,congrArg (Value.int .i64) (zj (by omega) (by omega)),trivial⟩,by omega,hQl,hQd,hQz,?_,hrlt,hr0,E0,ha,hb,hB⟩,by omega⟩))))))))));rw [zBh (show k<A.length by omega),zBh (show k<Q.length by omega),hQh,hAk];have e:=hQr;rw [Nat.add_mul];generalize Q.getD k 0*nat30 ys=u at *;have e3:1073741824*Qh*nat30 ys=1073741824*(Qh*nat30 ys):=Nat.mul_assoc _ _ _;omega
theorem IsN.shape (h:IsN w v n):∃ p l cap,v = .slice p l cap∧(l=0→n=0)∧(n=0→l=0)∧(l≤2→n<1152921504606846976):=by
 obtain ⟨p,ds,cap,h1,h2,h3,h4,h5⟩:=h;subst h5;refine ⟨p,ds.length,cap,h1,fun h=>by rw [List.eq_nil_of_length_eq_zero h];rfl,fun h=>by rw [h4.zero.1 h];rfl,fun h => ?_⟩;have:=zCe _ h4.1;have:=Nat.pow_le_pow_right (show 0<1073741824 by decide) h;omega
theorem z_lt {z:Nat} (h0:n≠0) (h:2^z∣n) (hf:Fits n):z<1000000000000:=by
 have h1:=Nat.le_of_dvd (by omega) h;have h2:=(Nat.le_log2 h0).2 h1;exact Nat.lt_of_le_of_lt h2 hf
theorem co2 (hb:b%2=1) (z:Nat):Nat.Coprime (2^z) b:=by
 apply Nat.Coprime.pow_left;show Nat.gcd 2 b=1;rw [Nat.gcd_rec,hb];decide
theorem gcd_odd {z:Nat} (hb:b%2=1) (hz:2^z∣a):Nat.gcd (a/2^z) b=Nat.gcd a b:=by
 obtain ⟨q,rfl⟩:=hz;rw [Nat.mul_div_cancel_left _ (Nat.pow_pos (by decide)),Nat.Coprime.gcd_mul_left_cancel _ (co2 hb z)]
theorem gcd_round {z:Nat} (hb:b%2=1) (hab:b≤a) (hz:2^z∣a-b):Nat.gcd ((a-b)/2^z) b=Nat.gcd a b:=by
 rw [gcd_odd hb hz];exact Nat.gcd_sub_self_left hab
theorem gcd_pow (ha:a%2=1) (hb:b%2=1):Nat.gcd (2^i*a) (2^k*b)=Nat.gcd a b*2^min i k:=by
 rcases Nat.le_total i k with h | h
 · obtain ⟨d,rfl⟩:=Nat.le.dest h;rw [Nat.min_eq_left h,Nat.pow_add,Nat.mul_assoc,Nat.gcd_mul_left,Nat.gcd_comm a,Nat.Coprime.gcd_mul_left_cancel _ (co2 ha d),Nat.gcd_comm b,Nat.mul_comm]
 · obtain ⟨d,rfl⟩:=Nat.le.dest h;rw [Nat.min_eq_right h,Nat.pow_add,Nat.mul_assoc,Nat.gcd_mul_left,Nat.Coprime.gcd_mul_left_cancel _ (co2 hb d),Nat.mul_comm]
theorem gcd_start (hi:2^i∣m%n) (hk:2^k∣n) (hai:m%n/2^i%2=1) (hbk:n/2^k%2=1):Nat.gcd (m%n/2^i) (n/2^k)*2^min i k=Nat.gcd m n:=by
 rw [← gcd_pow hai hbk,Nat.mul_div_cancel' hi,Nat.mul_div_cancel' hk,Nat.gcd_comm m n,Nat.gcd_rec n m]
theorem zEG {x y:Value} (hx:IsN w x m) (hy:IsN w y n) (hmF:Fits m) (hnF:Fits n) (hn0:n≠0):Ret prog 164 #[x,y] w (fun v w'=>IsN w' v (Nat.gcd m n)):=by
 have haF:Fits (m%n):=hmF.le (Nat.mod_le _ _);have E0:Ext w w:=Ext.refl w;refine J0 75 func164 rfl (rj fun K=>ag (rm [0,1] K ?_));refine rJ fun K=>mv (K1 (j2 E0 hx.ext hy.ext hb247 (zCs hx hy hmF hnF hn0) fun vd w1 E0 hx hy hr => ?_));obtain ⟨q1,v1,rfl,-,hA⟩:=hr;refine mv (xt rfl (xt rfl (ag (rm [0,1] K ?_))));refine zA (rj fun K => ?_);obtain ⟨pa,la,ca,rfl,hl0,hl1,-⟩:=hA.shape;refine mv (K1 (zG zl rfl (K8 rfl (rm [0,1,18] K ?_))));refine K0 rfl ?_ ?_<;>intro hc
 · have h0:m%n=0:=hl0 (t_beq (b:=0) hc);refine rJ fun K=>ag (rm [0,1,4] K ?_);refine zB (zU (en rfl E0 ?_));rw [Nat.gcd_comm,Nat.gcd_rec,h0,Nat.gcd_zero_left];exact hy
 · have h0:m%n≠0:=fun e=>f_beq (b:=0) hc (hl1 e);clear hc hl0 hl1;refine sk (rJ fun K=>K1 (j3 E0 hx.ext hy.ext hA.ext hb249 (zKN hA haF.fit h0) fun vi w2 E0 hx hy hA hr => ?_));obtain ⟨i,rfl,hi1,hi2⟩:=hr;refine mv (K1 (j3 E0 hx.ext hy.ext hA.ext hb249 (zKN hy hnF.fit hn0) fun vk w3 E0 hx hy hA hr => ?_));obtain ⟨k,rfl,hk1,hk2⟩:=hr;have hil:=z_lt h0 hi1 haF;have hkl:=z_lt hn0 hk1 hnF;refine ag (ag (rm [0,1,5,6] K ?_));refine rJ fun K=>mv (K1 (j3 E0 hx.ext hy.ext hA.ext hb250 (zHh hA haF.fit (by omega)) fun va w4 E0 hx hy hA ha=>mv (mv (K1 (j4 E0 hx.ext hy.ext hA.ext ha.ext hb250 (zHh hy hnF.fit (by omega)) fun vb w5 E0 hx hy hA ha hb=>ag (ag (rm [0,1,5,6] K ?_)))))));refine zA (zD ?_);obtain ⟨g,hg⟩:∃ g,Nat.gcd (m%n/2^i) (n/2^k)=g:=⟨_,rfl⟩;have hgm:=gcd_start hi1 hk1 hi2 hk2;rw [hg] at hgm;refine ze (X:=Nat×Nat) (fun p ρ w'=>∃ va vb,Keep ρ [(0,va),(1,vb),(5,.int .i64 (i:Nat)),(6,.int .i64 (k:Nat))]∧IsN w' va p.1∧IsN w' vb p.2∧p.1%2=1∧p.2%2=1∧Nat.gcd p.1 p.2=g∧Fits p.1∧Fits p.2∧Ext w w') (fun p=>p.1+p.2) (m%n/2^i,n/2^k) ⟨va,vb,(kp rfl),ha,hb,hi2,hk2,hg,haF.le (Nat.div_le_self _ _),hnF.le (Nat.div_le_self _ _),E0⟩ ?_;clear E0 ha hb hA hx hy;rintro ⟨a,b⟩ ρ1 w1 ⟨va,vb,hk,ha,hb,hao,hbo,hgab,haF1,hbF1,E0⟩;simp only at ha hb hao hbo hgab haF1 hbF1
   obtain ⟨pa,la,ca,rfl,-,-,hla⟩:=ha.shape;obtain ⟨pb,lb,cb,rfl,-,-,hlb⟩:=hb.shape;refine wpe_k _ hk ?_;clear hk ρ1;refine zBO (fun ρ w'=>Keep ρ [(0,.slice pa la ca),(1,.slice pb lb cb),(5,.int .i64 (i:Nat)),(6,.int .i64 (k:Nat))]∧w1=w') ?_ ?_
   · refine zA ?_;by_cases hla2:2<la
     · have hd:decide (((la:Nat):Int)>2)=true:=decide_eq_true (by omega);have hgd:(decide (((la:Nat):Int)>2)==false)=false:=by rw [hd];rfl
       refine rI fun K=>K1 (zG zl rfl (K8 rfl (mv (zCE hgd (zCE hgd (zCE hgd (pk (b:=true) (congrArg Value.bool hd) (rs [0,1,5,6,34,35,36,37] K ?_))))))));exact wct rfl (zm (zP ⟨rfl,(kp rfl),rfl⟩))
     · have hd:decide (((la:Nat):Int)>2)=false:=decide_eq_false (by omega);have hgd:(decide (((la:Nat):Int)>2)==false)=true:=by rw [hd];rfl
       refine rI fun K=>K1 (zG zl rfl (K8 rfl (mv (sr_g hgd (zC (sr_g hgd (zG zl rfl (sr_g hgd (zF rfl rfl rfl (pk (b:=false) (congrArg Value.bool hd) (rs [0,1,5,6,34,35,36,37] K ?_)))))))))));refine K0 rfl ?_ ?_<;>intro hc
       · exact zm (zP ⟨rfl,(kp rfl),rfl⟩)
       · have hlb2:¬ 2<lb:=fun h=>of_decide_eq_false hc (by show ((lb:Nat):Int)>2;omega);clear hc;have hal:=hla (by omega);have hbl:=hlb (by omega);refine zV (zi (zi (zL (zN (rJ fun K=>K1 (j2 E0 ha.ext hb.ext hb251 (zNt ha hal) fun vx w6 E0 ha hb hr => ?_))))));subst hr;refine mv (K1 (j2 E0 ha.ext hb.ext hb251 (zNt hb hbl) fun vy w7 E0 ha hb hr => ?_));subst hr;refine ag (ag (rm [0,1,5,6,8,9] K ?_));refine zA (zD (ze (X:=Nat×Nat) (fun p ρ w'=>Keep ρ [(5,.int .i64 (i:Nat)),(6,.int .i64 (k:Nat)),(8,.int .i64 (p.1:Nat)),(9,.int .i64 (p.2:Nat))]∧Nat.gcd p.1 p.2=g∧p.1<1152921504606846976∧p.2<1152921504606846976∧Ext w w') (fun p=>p.2) (a,b) ⟨(kp rfl),hgab,hal,hbl,E0⟩ ?_));clear E0 ha hb;rintro ⟨x,y⟩ ρ1 w3 ⟨hk,hgxy,hxl,hyl,E0⟩;simp only at hk hgxy hxl hyl;refine wpe_k _ hk ?_;clear hk ρ1;refine zA (rJ fun K=>K8 rfl (rm [5,6,8,9,64] K ?_));refine K0 rfl ?_ ?_<;>intro hc
         · have hy0:y≠0:=t_bne (b:=0) hc;clear hc;refine sk (zD (zCH mixed rfl rfl fun K hK=>qr rfl (fun wx hE=>zC ⟨rfl,Ext.refl _⟩) (qr rfl (fun wx hE=>zC ⟨rfl,Ext.refl _⟩) (qr rfl (fun wx hE=>zC ⟨rfl,Ext.refl _⟩) (qr rfl (fun wx hE=>zAP (x%y) rfl rfl hy0 rfl ⟨rfl,Ext.refl _⟩) (qr rfl (fun wx hE=>zZ ⟨rfl,Ext.refl _⟩) (qr rfl (fun wx hE=>zZ ⟨rfl,Ext.refl _⟩) (hK _ fun wq hE => ?_))))))));replace E0:=E0.trans hE;clear hE;refine zS (zP ?_);exact ⟨rfl,(y,x%y),⟨(kp rfl),by rw [← hgxy];exact zHo x y,hyl,by have:=Nat.mod_lt x (show y>0 by omega);simp only;omega,E0⟩,Nat.mod_lt _ (by omega)⟩
         · have hy0:y=0:=f_bne (b:=0) hc;subst hy0;rw [Nat.gcd_zero_right] at hgxy;clear hc;refine zV (zv (zi (zL (zN (rJ fun K=>K1 (j0 E0 hb248 (zDq hxl) fun vs w8 E0 hs=>mv (mv (K1 (zHG (min i k) rfl rfl rfl (K1 (j1 E0 hs.ext hb214 (zKc hs (Fits.fit (Nat.lt_of_le_of_lt (zER (Nat.le_of_lt hxl)) (by decide +kernel))) (by omega)) fun vl w9 E0 hs hr=>ag (rm [4,5,6,8,9] K ?_))))))))))));refine zB (en rfl E0 ?_);rw [hgxy,hgm] at hr;exact hr
   · rintro ρ1 w1 ⟨hk,rfl⟩;refine wpe_k _ hk ?_;clear hk ρ1;refine zD (rJ fun K=>mv (K1 (j2 E0 ha.ext hb.ext hb202 (zKa ha hb haF1.fit hbF1.fit) fun vo w2 E0 ha hb hr => ?_)));obtain ⟨c,rfl,hcmp⟩:=hr;refine ag (rm [0,1,5,6,7] K ?_);refine zA (rJ fun K=>K8 rfl (rm [0,1,5,6,7,42] K ?_));refine K0 rfl ?_ ?_<;>intro hc
     · have hab:a=b:=hcmp.2.1 (by rw [beq_iff_eq] at hc;exact hc);clear hc hcmp;subst hab;rw [Nat.gcd_self] at hgab;refine rJ fun K=>mv (mv (K1 (zHG (min i k) rfl rfl rfl (K1 (j2 E0 ha.ext hb.ext hb214 (zKc ha haF1.fit (by omega)) fun vl w7 E0 ha hb hr=>ag (rm [0,1,4,5,6] K ?_))))));refine zB (zU (zT (zAG (zT (zU (en rfl E0 ?_))))));rw [hgab,hgm] at hr;exact hr
     · have hab:a≠b:=fun e=>by
        have h1:=hcmp.2.2 e;rw [h1] at hc;cases hc
       clear hc;refine sk (zBO (fun ρ w'=>∃ a2 b2 va vb,Keep ρ [(0,va),(1,vb),(5,.int .i64 (i:Nat)),(6,.int .i64 (k:Nat))]∧w2=w'∧IsN w2 va a2∧IsN w2 vb b2∧a2%2=1∧b2%2=1∧Nat.gcd a2 b2=g∧Fits a2∧Fits b2∧b2<a2∧a2+b2=a+b) ?_ ?_)
       · refine rJ fun K=>K8 rfl (rm [0,1,5,6,49] K ?_);refine K0 rfl ?_ ?_<;>intro hc
         · have hlt:a<b:=hcmp.1.1 (of_decide_eq_true hc);refine rI fun K=>mv (ag (ag (rl K (zP ?_))));exact ⟨rfl,b,a,_,_,(kp rfl),rfl,hb,ha,hbo,hao,by rw [Nat.gcd_comm];exact hgab,hbF1,haF1,by omega,Nat.add_comm _ _⟩
         · have hlt:¬ a<b:=fun h=>of_decide_eq_false hc (hcmp.1.2 h);clear hc;exact zm (zP ⟨rfl,a,b,_,_,(kp rfl),rfl,ha,hb,hao,hbo,hgab,haF1,hbF1,by omega,rfl⟩)
       · rintro ρ1 w3 ⟨a2,b2,va2,vb2,hk,rfl,ha2,hb2,ha2o,hb2o,hg2,ha2F,hb2F,hlt2,hsum2⟩;refine wpe_k _ hk ?_;clear hk ρ1;clear ha hb;refine rJ fun K=>mv (K1 (j2 E0 ha2.ext hb2.ext hb203 (minus_ok ha2 hb2 ha2F.fit (Nat.le_of_lt hlt2)) fun vm w7 E0 ha2 hb2 hm=>ag (rm [0,1,5,6] K ?_)));refine rI fun K=>mv (K1 (j3 E0 ha2.ext hb2.ext hm.ext hb249 (zKN hm (ha2F.le (Nat.sub_le _ _)).fit (by omega)) fun vz w8 E0 ha2 hb2 hm hr => ?_));obtain ⟨z,rfl,hz1,hz2⟩:=hr;have hzl:=z_lt (by omega) hz1 (ha2F.le (Nat.sub_le _ _));refine K1 (j3 E0 ha2.ext hb2.ext hm.ext hb250 (zHh hm (ha2F.le (Nat.sub_le _ _)).fit (by omega)) fun vq w9 E0 ha2 hb2 hm hq=>ag (rl K (zS (zP ?_))));refine ⟨rfl,((a2-b2)/2^z,b2),⟨_,_,(kp rfl),hq,hb2,hz2,hb2o,by rw [← hg2];exact gcd_round hb2o (by omega) hz1,ha2F.le (Nat.le_trans (Nat.div_le_self _ _) (Nat.sub_le _ _)),hb2F,E0⟩,?_⟩;have h1:=Nat.div_le_self (a2-b2) (2^z);simp only;omega
end Go.Proofs.YtjiendlfobjanaaGreatDoor.R
namespace Go.Proofs.YtjiendlfobjanaaGreatDoor.R
open Go Go.RowKit Go.Proofs Tryz
attribute [local irreducible] Runs WPE CallK Ret
variable {T ty:TypeId} {a b:Nat} {af:Array Edge} {cs:List Value} {g:Option (Nat×Bool)} {pos:String} {r:Option Nat} {v:Value} {w w':World} {σ:Operand→Value}
def IsR (w:World) (v:Value) (q:Rat):Prop :=
 ∃ t b,v = .agg #[.int .i64 q.num.sign,t,b]∧IsN w t q.num.natAbs∧IsN w b (if q=0 then 0 else q.den)
theorem IsR.ext {q:Rat} (h:IsR w v q) (hx:Ext w w'):IsR w' v q:=by
 obtain ⟨t,b,h1,h2,h3⟩:=h;exact ⟨t,b,h1,h2.ext hx,h3.ext hx⟩
theorem IsR.upd {q:Rat} (h:IsR w v q) (hu:Upd b w w') (hb:Blk w b T cs) (hT:T≠2):IsR w' v q:=by
 obtain ⟨n,d,hv,h1,h2⟩:=h;exact ⟨n,d,hv,h1.upd hu hb hT,h2.upd hu hb hT⟩
theorem IsR.extS {S:List Nat} {q:Rat} (h:IsR w v q) (hx:ExtS S w w') (hS:NoR S w):IsR w' v q:=by
 obtain ⟨n,d,hv,h1,h2⟩:=h;exact ⟨n,d,hv,h1.extS hx hS,h2.extS hx hS⟩
theorem IsR.zero:IsR w (.agg #[.int .i64 0,.slice none 0 0,.slice none 0 0]) 0:=⟨_,_,rfl,IsN.nil rfl,IsN.nil rfl⟩
theorem zOF {s:Bool} (ha:a≠0) (hb:b≠0):(qOf s a b).num.sign=if s then -1 else 1:=by
 have h1:=zMd (s:=s) ha hb;have h2:=zIi (s:=s) (a:=a) hb;have h3:0<a/Nat.gcd a b:=Nat.div_pos (Nat.gcd_le_left _ (by omega)) (Nat.gcd_pos_of_pos_left _ (by omega));have h4:(qOf s a b<0)↔(qOf s a b).num<0:=zDK _;cases s
 · have h5:¬ qOf false a b<0:=of_decide_eq_false h1;rw [h4] at h5;simp only [Bool.false_eq_true,if_false];rw [Int.sign_eq_one_iff_pos];omega
 · have h5:qOf true a b<0:=of_decide_eq_true h1;rw [h4] at h5;simp only [if_true];rw [Int.sign_eq_neg_one_iff_neg];exact h5
theorem qOf_ne {s:Bool} (ha:a≠0) (hb:b≠0):qOf s a b≠0:=fun e=>by
 have h:=zOF (s:=s) ha hb;rw [e] at h;cases s<;>cases h
theorem IsR.mk' {s:Bool} {n d:Value} (ha:a≠0) (hb:b≠0) (hn:IsN w n (a/Nat.gcd a b)) (hd:IsN w d (b/Nat.gcd a b)):IsR w (.agg #[.int .i64 (if s then -1 else 1),n,d]) (qOf s a b) :=
 ⟨n,d,by rw [zOF ha hb],by rw [zIi hb];exact hn,by rw [if_neg (qOf_ne ha hb),zKr hb];exact hd⟩
theorem zOA:(prog.info? 50).map (·.size)=some 3:=by kernel_rfl
theorem zero50:(prog.info? 50).bind (·.zero)=some (.agg #[.int .i64 0,.slice none 0 0,.slice none 0 0]):=by kernel_rfl
theorem zCn:Aggr prog 50 3:=by unfold Aggr;exact ⟨by kernel_rfl,by kernel_rfl⟩
def Cell3 (b:Nat) (w:World):Prop:=∃ cs,Blk w b 50 cs∧cs.length=3
def RAt (b:Nat) (q:Rat) (w:World):Prop:=∃ cs,Blk w b 50 cs∧cs.length=3∧IsR w (.agg cs.toArray) q
theorem Cell3.of (hB:Blk w b 50 cs) (hl:cs.length=3):Cell3 b w:=⟨cs,hB,hl⟩
theorem RAt.ext {q:Rat} (h:RAt b q w) (hx:Ext w w'):RAt b q w':=by
 obtain ⟨cs,h1,h2,h3⟩:=h;exact ⟨cs,h1.ext hx,h2,h3.ext hx⟩
theorem runs_rstoreK {K:Value→World→Prop} {d:Option Tmp} {x y:Operand} {q:Rat} (hx:σ x = .pointer (some ⟨b,0,none⟩)) (hy:IsR w (σ y) q) (hc:Cell3 b w)
 (hk:∀ v w',Upd b w w'→RAt b q w'→K v w'):Runs prog r ⟨d,.store 50 x y,ty,pos,af,g⟩ σ w K:=by
 obtain ⟨cs,hB,hl⟩:=hc;have hy0:=hy;obtain ⟨n,dd,he,hn,hd⟩:=hy;obtain ⟨p1,ds1,c1,rfl,-⟩:=hn;obtain ⟨p2,ds2,c2,rfl,-⟩:=hd;refine zt zOA hx hB (by rw [he];rfl) (by omega) (by decide) (by rw [he];rfl) fun w' hU hN => ?_;rw [he] at hN hy0
 match cs,hl with
 | [a,b',c],_=>exact hk _ _ hU ⟨_,hN,rfl,hy0.upd hU hB (by decide)⟩
end Go.Proofs.YtjiendlfobjanaaGreatDoor.R
namespace Go.Proofs.YtjiendlfobjanaaGreatDoor.R
open Go Go.RowKit Go.Proofs Tryz
set_option maxRecDepth 10000
set_option maxHeartbeats 2000000
attribute [local irreducible] Runs WPE CallK Ret
variable {a b d i n:Nat} {w:World}
theorem under5:prog.underlying 5=some (.int .u8):=by kernel_rfl
theorem zNE:prog.underlying 2=some (.int .i64):=by kernel_rfl
theorem u8_eq {a b:UInt8} (h:(((a.toNat:Nat):Int)==((b.toNat:Nat):Int))=true):a=b:=UInt8.toNat_inj.1 (t_beq h)
theorem u8_ne {a b:UInt8} (h:(((a.toNat:Nat):Int)==((b.toNat:Nat):Int))=false):a≠b:=fun e=>f_beq h (by rw [e])
theorem signed_ok {l:List UInt8}:Ret prog 157 #[S l] w (fun r _=>r = .tuple #[S (zM l),.int .i64 (if below l then -1 else 1)]):=by
 refine J0 15 func157 rfl (rj fun K=>ag (ag (rm [0] K ?_)));refine zA (zA ?_);rcases l with _ | ⟨b,t⟩
 · skip
   refine rI fun K=>K1 (zw zAH rfl (K8 rfl (mv (K3 (K3 (K3 (pk rfl (rs [0,11] K ?_))))))));refine wcf rfl (sk (rJ fun K=>ag (ag (rm [2,3] K ?_))));exact zB (zQ ⟨rfl,_,zo rfl rfl rfl,E0,rfl⟩)
 · have hg0:decide ((((b :: t).length:Nat):Int)>0)=true:=decide_eq_true (by simp only [List.length_cons];omega);have hg:(decide ((((b :: t).length:Nat):Int)>0)==true)=true:=by rw [hg0];rfl
   refine rI fun K=>K1 (zw zAH rfl (K8 rfl (mv (sr_g hg (zC (sr_g hg (zAV (n:=0) zAH rfl rfl (by simp) (sr_g hg (zF rfl rfl rfl (pk (b:=true) (congrArg Value.bool hg0) (rs [0,11] K ?_)))))))))));refine K0 rfl ?_ ?_<;>intro hc
   · have hb:b=45:=u8_eq (b:=45) hc;subst hb;refine rJ fun K=>K1 (zCh (n:=1) zAH rfl rfl (by simp) (ag (ag (rm [2,3] K ?_))));exact zB (zU (zQ ⟨rfl,_,zo rfl rfl rfl,E0,rfl⟩))
   · have hb:b≠45:=u8_ne (b:=45) hc;have hbl:below (b :: t)=false:=by simp [below,hb]
     refine sk (rJ fun K=>ag (ag (rm [2,3] K ?_)));refine zB (zQ ⟨rfl,_,zo rfl rfl rfl,E0,?_⟩);rw [zM,hbl];rfl
theorem zLI {c:UInt8}:∀ {l:List UInt8} {i:Nat},i<l.length→(∀ j,j<i→l.getD j 0≠c)→l.getD i 0=c→cutAt c l=(l.take i,l.drop (i+1),true)
 | b :: l,0,_,_,h=>by
  have:b=c:=h;simp [cutAt,this]
 | b :: l,i+1,hi,hj,h=>by
  have h0:b≠c:=hj 0 (by omega);have ih:=zLI (c:=c) (l:=l) (i:=i) (by simpa using hi) (fun j hj'=>hj (j+1) (by omega)) h;simp [cutAt,h0,ih]
theorem zJV {c:UInt8}:∀ {l:List UInt8},(∀ j,j<l.length→l.getD j 0≠c)→cutAt c l=(l,[],false)
 | [],_=>rfl
 | b :: l,hj=>by
  have h0:b≠c:=hj 0 (by simp);have ih:=zJV (c:=c) (l:=l) (fun j hj'=>hj (j+1) (by simpa using hj'));simp [cutAt,h0,ih]
theorem split_ok {l:List UInt8} {c:UInt8} (hlen:l.length<1000000000):Ret prog 158 #[S l,.int .u8 (c.toNat:Int)] w (fun r _=>r = .tuple #[S (cutAt c l).1,S (cutAt c l).2.1,.bool (cutAt c l).2.2]):=by
 have E0:Ext w w:=Ext.refl w;refine J0 27 func158 rfl (rj fun K=>ag (ag (ag (rm [0,1] K ?_))));refine zA (rj fun K=>ag (rm [0,1,7] K ?_));refine zD (ze (X:=Nat) (fun i ρ w'=>Keep ρ [(0,S l),(1,.int .u8 (c.toNat:Nat)),(7,.int .i64 (i:Nat))]∧i≤l.length∧(∀ j,j<i→l.getD j 0≠c)∧Ext w w') (fun i=>l.length-i) 0 ⟨(kp rfl),Nat.zero_le _,fun j hj=>absurd hj (Nat.not_lt_zero _),E0⟩ ?_);clear E0;rintro i ρ1 w1 ⟨hk,hil,hj,E0⟩;refine wpe_k _ hk ?_;clear hk ρ1;refine zA (rJ fun K=>mv (K1 (zw zAH rfl (K8 rfl (rm [0,1,7,11] K ?_)))));refine K0 rfl ?_ ?_<;>intro hc
 · have hlt:i<l.length:=t_lt hc;clear hc;refine sk (zA (zD (rJ fun K=>mv (K1 (zAV (n:=i) zAH rfl rfl hlt (mv (K8 rfl (rm [0,1,7,18] K ?_))))))));refine K0 rfl ?_ ?_<;>intro hc
   · have he:l.getD i 0=c:=u8_eq hc;clear hc;refine zA (zCH mixed rfl rfl fun K hK=>qr rfl (fun wx hE=>zC ⟨rfl,Ext.refl _⟩) (qr rfl (fun wx hE=>zC ⟨rfl,Ext.refl _⟩) (qr rfl (fun wx hE=>zEp (n:=i) zAH rfl rfl (by omega) ⟨rfl,Ext.refl _⟩) (qr rfl (fun wx hE=>zC ⟨rfl,Ext.refl _⟩) (qr rfl (fun wx hE=>zC ⟨rfl,Ext.refl _⟩) (qr rfl (fun wx hE=>za (b:=1) (i+1) rfl rfl rfl (by omega) ⟨rfl,Ext.refl _⟩) (qr rfl (fun wx hE=>zCh (n:=i+1) zAH rfl rfl (by omega) ⟨rfl,Ext.refl _⟩) (qr rfl (fun wx hE=>zZ ⟨rfl,Ext.refl _⟩) (qr rfl (fun wx hE=>zZ ⟨rfl,Ext.refl _⟩) (qr rfl (fun wx hE=>zZ ⟨rfl,Ext.refl _⟩) (hK _ fun wq hE => ?_)))))))))));replace E0:=E0.trans hE;clear hE;refine zN (K5 [1,4,5,6,7] ?_);refine zB (zT (zU (zAG (zT (zU (zQ ?_))))));exact ⟨rfl,_,zBw rfl rfl rfl rfl,E0,by rw [zLI hlt hj he];rfl⟩
   · have hne:l.getD i 0≠c:=u8_ne hc;clear hc;refine zm (zS (zN (rI fun K=>K8 rfl (ag (rl K (zP (⟨rfl,i+1,⟨⟨rfl,rfl,rfl,rfl,rfl,congrArg (Value.int .i64) (zx (by omega)),trivial⟩,by omega,fun j hj' => ?_,E0⟩,by omega⟩)))))));rcases Nat.lt_succ_iff_lt_or_eq.1 hj' with h | rfl
     · exact hj j h
     · exact hne
 · have hge:=f_lt hc;have hie:i=l.length:=by omega
   subst hie;clear hc;refine zV (zv (zi (zL (zN (rJ fun K=>ag (ag (ag (rm [1,4,5,6,7] K ?_))))))));refine zB (zQ ?_);exact ⟨rfl,_,zBw rfl rfl rfl rfl,E0,by rw [zJV hj];rfl⟩
theorem zGk (b:UInt8):isDig b=true↔48≤b.toNat∧b.toNat≤57:=by simp [isDig]
theorem all_take_succ {l:List UInt8} (hi:i<l.length) (h:(l.take i).all isDig=true) (hd:isDig (l.getD i 0)=true):(l.take (i+1)).all isDig=true:=by
 rw [List.take_succ_eq_append_getElem hi,List.all_append,h];simp [List.getElem?_eq_getElem hi] at hd;simp [hd]
theorem zJs {l:List UInt8} (hi:i<l.length) (hd:isDig (l.getD i 0)=false):zAU l=false:=by
 have:l.all isDig=false:=by
  rw [List.all_eq_false];refine ⟨l[i],List.getElem_mem hi,?_⟩;rw [List.getD_eq_getElem?_getD,List.getElem?_eq_getElem hi] at hd;simp at hd;simp [hd]
 simp [zAU,this]
theorem zAl {l:List UInt8} (hlen:l.length<1000000000):Ret prog 159 #[S l] w (fun r _=>r = .bool (zAU l)):=by
 have E0:Ext w w:=Ext.refl w;refine J0 23 func159 rfl (rj fun K=>ag (rm [0] K ?_));refine zA (rj fun K=>ag (rm [0,3] K ?_));refine zD (ze (X:=Nat) (fun i ρ w'=>Keep ρ [(0,S l),(3,.int .i64 (i:Nat))]∧i≤l.length∧(l.take i).all isDig=true∧Ext w w') (fun i=>l.length-i) 0 ⟨(kp rfl),Nat.zero_le _,rfl,E0⟩ ?_);clear E0;rintro i ρ1 w1 ⟨hk,hil,hj,E0⟩;refine wpe_k _ hk ?_;clear hk ρ1;refine zA (rJ fun K=>mv (K1 (zw zAH rfl (K8 rfl (rm [0,3,7] K ?_)))));refine K0 rfl ?_ ?_<;>intro hc
 · have hlt:i<l.length:=t_lt hc;clear hc;refine sk (zA (zD (zA ?_)));by_cases h48:(l.getD i 0).toNat<48
   · have hd0:decide ((((l.getD i 0).toNat:Nat):Int)<48)=true:=decide_eq_true (by omega);have hg0:(decide ((((l.getD i 0).toNat:Nat):Int)<48)==false)=false:=by rw [hd0];rfl
     have hdig:isDig (l.getD i 0)=false:=by rw [Bool.eq_false_iff,ne_eq,zGk];omega
     refine rI fun K=>mv (K1 (zAV (n:=i) zAH rfl rfl hlt (K8 rfl (mv (zCE hg0 (zCE hg0 (zCE hg0 (zCE hg0 (pk (b:=true) (congrArg Value.bool hd0) (rs [0,3,15,16,17,18,19] K ?_))))))))));refine wct rfl (rj fun K=>ag (rm [2,3] K ?_));refine zB (zT (zU (zAG (zT (zU (zQ ?_))))));exact ⟨rfl,_,zg rfl rfl,E0,by rw [zJs hlt hdig];rfl⟩
   · have hd0:decide ((((l.getD i 0).toNat:Nat):Int)<48)=false:=decide_eq_false (by omega);have hg0:(decide ((((l.getD i 0).toNat:Nat):Int)<48)==false)=true:=by rw [hd0];rfl
     refine rI fun K=>mv (K1 (zAV (n:=i) zAH rfl rfl hlt (K8 rfl (mv (sr_g hg0 (zC (sr_g hg0 (zC (sr_g hg0 (zAV (n:=i) zAH rfl rfl hlt (sr_g hg0 (zF rfl rfl rfl (pk (b:=false) (congrArg Value.bool hd0) (rs [0,3,15,16,17,18,19] K ?_))))))))))))));refine K0 rfl ?_ ?_<;>intro hc
     · have h57:(((l.getD i 0).toNat:Nat):Int)>57:=of_decide_eq_true hc;have hdig:isDig (l.getD i 0)=false:=by rw [Bool.eq_false_iff,ne_eq,zGk];omega
       refine rj fun K=>ag (rm [2,3] K ?_);refine zB (zT (zU (zAG (zT (zU (zQ ?_))))));exact ⟨rfl,_,zg rfl rfl,E0,by rw [zJs hlt hdig];rfl⟩
     · have h57:¬ (((l.getD i 0).toNat:Nat):Int)>57:=of_decide_eq_false hc;have hdig:isDig (l.getD i 0)=true:=by rw [zGk];omega
       exact zm (zS (zN (rI fun K=>K8 rfl (ag (rl K (zP (⟨rfl,i+1,⟨⟨rfl,rfl,rfl,congrArg (Value.int .i64) (zx (by omega)),trivial⟩,by omega,all_take_succ hlt hj hdig,E0⟩,by omega⟩)))))))
 · have hge:=f_lt hc;clear hc;refine zV (zv (zi (zL (zN (rJ fun K=>K1 (zw zAH rfl (K8 rfl (ag (rm [2,3] K ?_)))))))));refine zB (en rfl E0 ?_);rw [List.take_of_length_le hge] at hj;rw [zAU,hj,Bool.and_true];cases l with
   | nil=>rfl
   | cons b t =>
    show Value.bool (decide ((((b :: t).length:Nat):Int)>0))=_;rw [decide_eq_true (by simp only [List.length_cons];omega)];rfl
theorem natS_append (a b:List UInt8):natS (a++b)=natS a*10^b.length+natS b:=by
 have key:∀ (b:List UInt8) (n:Nat),b.foldl (fun n b=>10*n+(b.toNat-48)) n=n*10^b.length+natS b:=by
  intro b
  induction b with
  | nil=>intro n;simp [natS]
  | cons x t ih =>
   intro n;have e:natS (x :: t)=t.foldl (fun n b=>10*n+(b.toNat-48)) (x.toNat-48):=by simp [natS]
   rw [List.foldl_cons,ih,e,ih,List.length_cons,Nat.pow_succ];grind
 unfold natS;rw [List.foldl_append,key];rfl
theorem natS_take_succ {l:List UInt8} (h:i<l.length):natS (l.take (i+1))=10*natS (l.take i)+((l.getD i 0).toNat-48):=by
 rw [List.take_succ_eq_append_getElem h,zIe,List.getD_eq_getElem?_getD,List.getElem?_eq_getElem h,Option.getD_some]
theorem zJr (l:List UInt8) (j n:Nat):natS (l.take (j+n))=natS (l.take j)*10^((l.drop j).take n).length+natS ((l.drop j).take n):=by
 rw [← natS_append,List.take_add]
theorem zOU {l:List UInt8} (h:l.all isDig=true) (hi:i<l.length):48≤(l.getD i 0).toNat∧(l.getD i 0).toNat≤57:=by
 rw [← zGk,List.getD_eq_getElem?_getD,List.getElem?_eq_getElem hi];exact List.all_eq_true.1 h _ (List.getElem_mem hi)
theorem zKX {l:List UInt8} (h:l.all isDig=true) (i:Nat):(l.take i).all isDig=true:=by
 rw [List.all_eq_true] at h ⊢;exact fun x hx=>h x (List.mem_of_mem_take hx)
theorem zJz {l:List UInt8} (h:l.all isDig=true) (i:Nat):(l.drop i).all isDig=true:=by
 rw [List.all_eq_true] at h ⊢;exact fun x hx=>h x (List.mem_of_mem_drop hx)
theorem zNf (h:i≤9):10^i≤1000000000:=Nat.pow_le_pow_right (by decide) h
theorem zJj (h:n<1152921504606846976):Fits n:=Nat.lt_of_le_of_lt (zER (Nat.le_of_lt h)) (by decide +kernel)
theorem fit_natS' {l:List UInt8} (h:l.length≤1000) (hd:l.all isDig=true):Fit (natS (l.take i)):=zEd (by rw [List.length_take];omega) (zKX hd i)
theorem u8_sub {b:UInt8} (h:48≤b.toNat∧b.toNat≤57):IntKind.u8.wrap (((b.toNat:Nat):Int)-48)=((b.toNat-48:Nat):Int):=by
 simp [IntKind.wrap,IntKind.bits,IntKind.signed];omega
theorem dig_add (ha:a<4611686018427387904) (hd:d<1000):IntKind.i64.wrap ((a:Int)+IntKind.i64.wrap (d:Int))=((a+d:Nat):Int):=by
 rw [zj (x:=(d:Int)) (by omega) (by omega),zj (by omega) (by omega)];omega
theorem zHD {l:List UInt8} (hlen:l.length≤1000) (hd:l.all isDig=true):Ret prog 161 #[S l] w (fun r w'=>IsN w' r (natS l)):=by
 have E0:Ext w w:=Ext.refl w;refine J0 40 func161 rfl (rj fun K=>ag (rm [0] K ?_));refine rj fun K=>ag (rm [0,3] K ?_);refine zA (zD (ze (X:=Nat) (fun j ρ w'=>∃ vo,Keep ρ [(0,S (l.drop j)),(3,vo)]∧j≤l.length∧IsN w' vo (natS (l.take j))∧Ext w w') (fun j=>l.length-j) 0 ⟨.slice none 0 0,(kp rfl),Nat.zero_le _,IsN.nil rfl,E0⟩ ?_));clear E0;rintro j ρ1 w1 ⟨vo,hk,hjl,ho,E0⟩;refine wpe_k _ hk ?_;clear hk ρ1;refine zA (rJ fun K=>K1 (zw zAH rfl (K8 rfl (rm [0,3,10] K ?_))));refine K0 rfl ?_ ?_<;>intro hc
 · have hlt:j<l.length:=by have h:=of_decide_eq_true hc;rw [List.length_drop] at h;omega
   clear hc;obtain ⟨n,hn⟩:∃ n,min (l.drop j).length 9=n:=⟨_,rfl⟩;have hn9:n≤9∧1≤n∧n≤(l.drop j).length:=by rw [List.length_drop] at hn ⊢;omega
   have hnl:j+n≤l.length:=by have h:=hn9.2.2;rw [List.length_drop] at h;omega
   refine sk (zD (rJ fun K=>K1 (zw zAH rfl (K1 (zHG (b:=9) n rfl rfl hn (ag (rm [0,3,4] K ?_)))))));refine rj fun K=>ag (ag (rm [0,3,4,5,6] K ?_));refine zA (rj fun K=>ag (rm [0,3,4,5,6,7] K ?_));refine zD (ze (X:=Nat) (fun i ρ w'=>Keep ρ [(0,S (l.drop j)),(3,vo),(4,.int .i64 (n:Nat)),(5,.int .i64 (natS ((l.drop j).take i):Nat)),(6,.int .i64 ((10^i:Nat):Int)),(7,.int .i64 (i:Nat))]∧i≤n∧IsN w' vo (natS (l.take j))∧Ext w w') (fun i=>n-i) 0 ⟨(kp rfl),Nat.zero_le _,ho,E0⟩ ?_);clear E0 ho;rintro i ρ1 w2 ⟨hk,hin,ho,E0⟩;refine wpe_k _ hk ?_;clear hk ρ1;refine zA (rJ fun K=>mv (K8 rfl (rm [0,3,4,5,6,7,16] K ?_)));refine K0 rfl ?_ ?_<;>intro hc
   · have hi:i<n:=t_lt hc;clear hc;have hil:i<(l.drop j).length:=by omega
     have hdi:=zOU (zJz hd j) hil;have h10:=zNf (show i≤9 by omega);have hnl1:=zHJ _ ((l.drop j).take i) rfl (zKX (zJz hd j) i);rw [List.length_take,Nat.min_eq_left (by omega)] at hnl1;have hp1:10*10^i=10^(i+1):=by rw [Nat.pow_succ,Nat.mul_comm]
     refine sk (zA (zD (rI fun K=>K1 (zBi (a:=10) (10*natS ((l.drop j).take i)) rfl rfl rfl (by omega) (mv (mv (K1 (zAV (n:=i) zAH rfl rfl hil (K1 (zF (v := .int .u8 (((l.drop j).getD i 0).toNat-48:Nat)) rfl rfl (congrArg (fun z=>some (Value.int .u8 z)) (u8_sub hdi)) (K1 (zCT (n:=((((l.drop j).getD i 0).toNat-48:Nat):Int)) under5 zNE rfl (K1 (zF (v := .int .i64 ((10*natS ((l.drop j).take i)+(((l.drop j).getD i 0).toNat-48):Nat):Int)) rfl rfl (congrArg (fun z=>some (Value.int .i64 z)) (dig_add (by omega) (by omega))) (mv (K1 (zBi (a:=10) (10^(i+1)) rfl rfl hp1 (by omega) ?_)))))))))))))))));refine ag (ag (rl K (zS (zN (K5 [0,3,4,5,6,7] ?_)))));exact rI fun K=>K8 rfl (ag (rl K (zP (⟨rfl,i+1,⟨⟨rfl,rfl,rfl,rfl,rfl,rfl,rfl,congrArg (Value.int .i64) (congrArg Nat.cast (natS_take_succ hil).symm),rfl,rfl,rfl,congrArg (Value.int .i64) (zx (by omega)),trivial⟩,by omega,ho,E0⟩,by omega⟩))))
   · have hi:=f_lt hc;clear hc;obtain rfl:i=n:=by omega
     have h10:=zNf hn9.1;have hcl:((l.drop j).take i).length=i:=by rw [List.length_take];omega
     have hnl1:=zHJ _ ((l.drop j).take i) rfl (zKX (zJz hd j) i);rw [hcl] at hnl1;have hfo:=fit_natS' (i:=j) hlen hd;have hfm:Fit (natS (l.take j)*10^i):=by
      have:=fit_natS' (i:=j+i) hlen hd;rw [zJr,hcl] at this;exact this.le (Nat.le_add_right _ _)
     refine zV (zv (zi (zL (zN (rJ fun K=>mv (K1 (j1 E0 ho.ext hb248 (zDq (n:=10^i) (by omega)) fun vs w1 E0 ho hs=>K1 (j2 E0 ho.ext hs.ext hb201 (zHi ho hs hfo (zJj (by omega)).fit) fun vt w2 E0 ho hs ht=>mv (K1 (j3 E0 ho.ext hs.ext ht.ext hb248 (zDq (n:=natS ((l.drop j).take i)) (by omega)) fun vp w3 E0 ho hs ht hs2=>K1 (j4 E0 ho.ext hs.ext ht.ext hs2.ext hb199 (plus_ok ht hs2 hfm (zJj (by omega)).fit) fun vq w4 E0 ho hs ht hs2 hp=>ag (rm [0,3,4,5,6,7] K ?_))))))))))));refine rI fun K=>mv (K1 (zCh (n:=i) zAH rfl rfl (by omega) (ag (rl K (zS (zP (⟨rfl,j+i,⟨_,⟨rfl,congrArg S (by rw [List.drop_drop]),rfl,rfl,trivial⟩,by omega,?_,E0⟩,by omega⟩)))))));rw [zJr,hcl];exact hp
 · have hge:l.length≤j:=by have h:=of_decide_eq_false hc;rw [List.length_drop] at h;omega
   clear hc;refine zV (zv (zi (zL (zN (rJ fun K=>ag (rm [2] K ?_))))));refine zB (en rfl E0 ?_);rw [List.take_of_length_le hge] at ho;exact ho
theorem IsR.mkS {s:Int} {n d:Value} (hs:s=1∨s = -1) (ha:a≠0) (hb:b≠0) (hn:IsN w n (a/Nat.gcd a b)) (hd:IsN w d (b/Nat.gcd a b)):IsR w (.agg #[.int .i64 s,n,d]) (qOf (decide (s<0)) a b):=by
 rcases hs with rfl | rfl
 · exact IsR.mk' (s:=false) ha hb hn hd
 · exact IsR.mk' (s:=true) ha hb hn hd
theorem made_ok {s:Int} {x y:Value} (hs:s=1∨s = -1∨s=0) (hn:IsN w x a) (hd:IsN w y b) (hb0:b≠0) (hfa:Fits a) (hfb:Fits b):Ret prog 160 #[.int .i64 s,x,y] w (fun v w'=>IsR w' v (qOf (decide (s<0)) (if s=0 then 0 else a) b)):=by
 obtain ⟨pn,ln,kn,rfl,hnz,hnz1,-⟩:=hn.shape;have E0:Ext w w:=Ext.refl w;refine J0 46 func160 rfl (rj fun K => ?_);refine K1 (zd zero50 fun b1 w1 hb hE hB1 hs => ?_);have hgb1:w.heap.size≤b1:=by rw [hb];exact E0.size
 replace E0:=E0.trans hE;replace hn:=hn.ext hE;replace hd:=hd.ext hE;clear hE hs hb;refine rm [0,1,2,6] K ?_;refine zA (zA ?_);rcases (show s=0∨(s≠0∧a=0)∨(s≠0∧a≠0) from by omega) with h0 | ⟨h0,ha0⟩ | ⟨h0,ha0⟩
 · subst h0;refine rI fun K=>K8 rfl (mv (K3 (K3 (K3 (pk rfl (rs [0,1,2,6,14] K ?_))))));refine wct rfl (rj fun K=>K1 (zf (cs := #[.int .i64 0,.slice none 0 0,.slice none 0 0]) (by kernel_rfl) (K1 (zt zOA rfl hB1 rfl (Nat.le_of_ble_eq_true rfl) (by decide) rfl fun w2 hU hN => ?_))));replace E0:=E0.upd hU hgb1;replace hn:=hn.upd hU hB1 (by decide);replace hd:=hd.upd hU hB1 (by decide);clear hB1;have hB1:=hN;clear hN hU;refine rm [0,6] K ?_;refine zB (zU (zQ ?_));exact ⟨rfl,_,zAD rfl rfl rfl zCn hB1 rfl,E0,by rw [if_pos rfl,zKg];exact IsR.zero⟩
 · have he:(s==0)=false:=beq_eq_false_iff_ne.2 h0;have hg0:((s==0)==false)=true:=by rw [he];rfl
   obtain rfl:=hnz1 ha0;refine rI fun K=>K8 rfl (mv (sr_g hg0 (zC (sr_g hg0 (zG zl rfl (sr_g hg0 (zF rfl rfl rfl (pk (b:=false) (congrArg Value.bool he) (rs [0,1,2,6,14] K ?_)))))))));refine wct rfl (rj fun K=>K1 (zf (cs := #[.int .i64 0,.slice none 0 0,.slice none 0 0]) (by kernel_rfl) (K1 (zt zOA rfl hB1 rfl (Nat.le_of_ble_eq_true rfl) (by decide) rfl fun w2 hU hN => ?_))));replace E0:=E0.upd hU hgb1;replace hn:=hn.upd hU hB1 (by decide);replace hd:=hd.upd hU hB1 (by decide);clear hB1;have hB1:=hN;clear hN hU;refine rm [0,6] K ?_;refine zB (zU (zQ ?_));exact ⟨rfl,_,zAD rfl rfl rfl zCn hB1 rfl,E0,by rw [if_neg h0,ha0,zKg];exact IsR.zero⟩
 · have he:(s==0)=false:=beq_eq_false_iff_ne.2 h0;have hg0:((s==0)==false)=true:=by rw [he];rfl
   have hl0:(((ln:Nat):Int)==0)=false:=beq_eq_false_iff_ne.2 (fun e=>ha0 (hnz (by omega)));refine rI fun K=>K8 rfl (mv (sr_g hg0 (zC (sr_g hg0 (zG zl rfl (sr_g hg0 (zF rfl rfl rfl (pk (b:=false) (congrArg Value.bool he) (rs [0,1,2,6,14] K ?_)))))))));refine wcf (congrArg Value.bool hl0) (sk (zBO (fun ρ w'=>∃ vn vd,Keep ρ [(0,.int .i64 s),(1,vn),(2,vd),(6,.pointer (some ⟨b1,0,none⟩))]∧Ext w w'∧IsN w' vn (a/Nat.gcd a b)∧IsN w' vd (b/Nat.gcd a b)∧Blk w' b1 50 [Value.int .i64 0,Value.slice none 0 0,Value.slice none 0 0]) ?_ ?_))
   · refine zA ?_;rcases (show a=1∨(a≠1∧b=1)∨(a≠1∧b≠1) from by omega) with h1 | ⟨h1,h2⟩ | ⟨h1,h2⟩
     · have hab:a=1∨b=1:=Or.inl h1;refine rI fun K=>K1 (j3 E0 hn.ext hd.ext hB1.ext hb163 (zDL hn) fun v3_1 w2 E0 hn hd hB1 hr => ?_);obtain rfl:=hr.trans (congrArg Value.bool (decide_eq_true h1));refine K1 (zr rfl (mv (K3 (K3 (K3 (pk rfl (rs [0,1,2,6,23] K ?_)))))));refine wcf rfl (zm (zP ?_));have hg:Nat.gcd a b=1:=by rcases hab with e | e<;>rw [e]<;>simp
       exact ⟨rfl,_,_,(kp rfl),E0,by rw [hg,Nat.div_one];exact hn,by rw [hg,Nat.div_one];exact hd,hB1⟩
     · have hab:a=1∨b=1:=Or.inr h2;refine rI fun K=>K1 (j3 E0 hn.ext hd.ext hB1.ext hb163 (zDL hn) fun v3_1 w2 E0 hn hd hB1 hr => ?_);obtain rfl:=hr.trans (congrArg Value.bool (decide_eq_false h1));refine K1 (zr rfl (mv (K7 (K2 (j3 E0 hn.ext hd.ext hB1.ext hb163 (zDL hd) fun v3_5 w3 E0 hn hd hB1 hr => ?_)))));obtain rfl:=hr.trans (congrArg Value.bool (decide_eq_true h2));refine K2 (zr rfl (pk rfl (rs [0,1,2,6,23] K ?_)));refine wcf rfl (zm (zP ?_));have hg:Nat.gcd a b=1:=by rcases hab with e | e<;>rw [e]<;>simp
       exact ⟨rfl,_,_,(kp rfl),E0,by rw [hg,Nat.div_one];exact hn,by rw [hg,Nat.div_one];exact hd,hB1⟩
     · skip
       refine rI fun K=>K1 (j3 E0 hn.ext hd.ext hB1.ext hb163 (zDL hn) fun v3_1 w2 E0 hn hd hB1 hr => ?_);obtain rfl:=hr.trans (congrArg Value.bool (decide_eq_false h1));refine K1 (zr rfl (mv (K7 (K2 (j3 E0 hn.ext hd.ext hB1.ext hb163 (zDL hd) fun v3_5 w3 E0 hn hd hB1 hr => ?_)))));obtain rfl:=hr.trans (congrArg Value.bool (decide_eq_false h2));refine K2 (zr rfl (pk rfl (rs [0,1,2,6,23] K ?_)));refine wct rfl (rJ fun K=>mv (K1 (j3 E0 hn.ext hd.ext hB1.ext hb164 (zEG hn hd hfa hfb hb0) fun v4_2 w4 E0 hn hd hB1 hgv => ?_)));have hg0:Nat.gcd a b≠0:=fun e=>ha0 (Nat.gcd_eq_zero_iff.1 e).1;have hfg:Fits (Nat.gcd a b):=hfa.le (Nat.le_of_dvd (Nat.pos_of_ne_zero ha0) (Nat.gcd_dvd_left a b));refine ag (rm [0,1,2,6,7] K ?_);refine rJ fun K=>K1 (j4 E0 hn.ext hd.ext hB1.ext hgv.ext hb163 (zDL hgv) fun v5_1 w5 E0 hn hd hB1 hgv hr => ?_);subst hr;refine K1 (zr rfl (rm [0,1,2,6,7,29] K ?_));refine K0 rfl ?_ ?_<;>intro hc
       · clear hc;refine rJ fun K=>mv (K1 (j4 E0 hn.ext hd.ext hB1.ext hgv.ext hb247 (zCs hn hgv hfa hfg hg0) fun v6_2 w6 E0 hn hd hB1 hgv hr => ?_));obtain ⟨q1,r1,rfl,hq2,-⟩:=hr;refine mv (xt rfl (xt rfl (ag (rm [0,1,2,6,7] K ?_))));refine rI fun K=>mv (K1 (j5 E0 hn.ext hd.ext hB1.ext hgv.ext hq2.ext hb247 (zCs hd hgv hfb hfg hg0) fun v7_2 w7 E0 hn hd hB1 hgv hq2 hr => ?_));obtain ⟨q2,r2,rfl,hq4,-⟩:=hr;exact mv (xt rfl (xt rfl (ag (rl K (zP ⟨rfl,_,_,(kp rfl),E0,hq2,hq4,hB1⟩)))))
       · have hg1:Nat.gcd a b=1:=by simpa using hc
         clear hc;refine zm (zP ?_);have hg:Nat.gcd a b=1:=hg1;exact ⟨rfl,_,_,(kp rfl),E0,by rw [hg,Nat.div_one];exact hn,by rw [hg,Nat.div_one];exact hd,hB1⟩
   · clear E0 hn hd hB1;rintro ρ2 w2 ⟨vn,vd,hk,E0,hn,hd,hB1⟩;obtain ⟨p1,l1,k1,rfl,-,-,-⟩:=hn.shape;obtain ⟨p2,l2,k2,rfl,-,-,-⟩:=hd.shape;refine wpe_k _ hk ?_;clear hk ρ2;refine rJ fun K=>mv (mv (K1 (zf (cs := #[.int .i64 s,.slice p1 l1 k1,.slice p2 l2 k2]) (by kernel_rfl) (K1 (zt zOA rfl hB1 rfl (Nat.le_of_ble_eq_true rfl) (by decide) rfl fun w2 hU hN => ?_)))));replace E0:=E0.upd hU hgb1;replace hn:=hn.upd hU hB1 (by decide);replace hd:=hd.upd hU hB1 (by decide);clear hB1;have hB1:=hN;clear hN hU;refine rm [0,6] K ?_;refine zB (zQ ?_);exact ⟨rfl,_,zAD rfl rfl rfl zCn hB1 rfl,E0,by rw [if_neg h0];exact IsR.mkS (by omega) ha0 hb0 hn hd⟩
variable {bot:List UInt8} {two:Bool}
theorem zCg {l top:List UInt8} (hcut:cutAt 47 (zM l)=(top,bot,two)) (h:zAO top=false∨(top=[48]∧(below l=true∨two=true))∨(two=true∧(zAO bot=false∨bot=[48]∨bot=[49]))):zW l=(0,6):=by
 rw [zAm,hcut];simp only;by_cases h1:(!zAO top || (top==[48]&&(below l || two)))=true
 · rw [if_pos h1]
 · rw [if_neg h1];rw [if_pos];rcases h with h | ⟨h,h'⟩ | ⟨h,h'⟩
   · simp [h] at h1
   · simp [h] at h1;rcases h' with h' | h'<;>simp [h'] at h1
   · rw [h];rcases h' with h' | h' | h'<;>simp [h']
theorem zKJ {l top:List UInt8} (hcut:cutAt 47 (zM l)=(top,bot,two)) (h1:zAO top=true) (h2:¬ (top=[48]∧(below l=true∨two=true))) (h3:two=true→(zAO bot=true∧bot≠[48])∧bot≠[49]) :
 zW l=if 1000<top.length∨1000<bot.length then (0,3) else if two=false then (qOf (below l) (natS top) 1,0) else if Nat.gcd (natS top) (natS bot)≠1 then (0,6) else (qOf (below l) (natS top) (natS bot),0):=by
 rw [zAm,hcut];simp only;rw [if_neg (by
  rw [h1];by_cases ht:top=[48]
  · have hb:below l=false:=by cases hb:below l with | false=>rfl | true=>exact absurd ⟨ht,.inl hb⟩ h2
    have hw:two=false:=by cases hw:two with | false=>rfl | true=>exact absurd ⟨ht,.inr hw⟩ h2
    rw [hb,hw];simp
  · simp [ht]),if_neg (by
  cases hw:two with
  | false=>simp
  | true =>
   obtain ⟨⟨a,b⟩,c⟩:=h3 hw;simp [a,b,c])]
 cases two<;>simp
theorem zOa {t:List UInt8} (hl:t.length≤1) (hd:zAU t=true) (h0:t.getD 0 0=48):t=[48]:=by
 match t,hl with
 | [],_=>cases hd
 | [b],_=>have:b=48:=h0;rw [this]
theorem zJY {t:List UInt8} (hl:t.length≤1) (hd:zAU t=true):zAO t=true:=by
 unfold zAO;rw [hd,Bool.true_and];by_cases h:t.getD 0 0=48
 · rw [zOa hl hd h];rfl
 · rw [Bool.or_eq_true];exact .inr (bne_iff_ne.2 h)
theorem zFo {t:List UInt8} (hd:zAU t=true) (h:t.getD 0 0≠48):zAO t=true∧t≠[48]:=by
 refine ⟨?_,fun e=>h (by rw [e];rfl)⟩;unfold zAO;rw [hd,Bool.true_and,Bool.or_eq_true];exact .inr (bne_iff_ne.2 h)
theorem zIf {t:List UInt8} (hl:1<t.length) (h:t.getD 0 0=48):zAO t=false:=by
 unfold zAO;have h1:(t==[48])=false:=by rw [beq_eq_false_iff_ne];intro e;rw [e] at hl;exact absurd hl (by decide)
 have h2:(t.getD 0 0 != 48)=false:=by rw [h];rfl
 rw [h1,h2];simp
theorem zNP {t:List UInt8} (hd:zAU t=true) (h:t.getD 0 0=48):zAO t=false∨t=[48]:=by
 rcases Nat.lt_or_ge 1 t.length with hl | hl
 · exact .inl (zIf hl h)
 · exact .inr (zOa hl hd h)
theorem zID {t:List UInt8} (hd:zAU t=false):zAO t=false:=by unfold zAO;rw [hd];rfl
theorem zFm {t:List UInt8} (hd:zAU t=true):0<t.length:=by
 cases t with
 | nil=>cases hd
 | cons b t=>simp
theorem zIQ {c:UInt8}:∀ {l:List UInt8},(cutAt c l).2.2=false→(cutAt c l).2.1=[]
 | [],_=>rfl
 | b :: l,h=>by
  unfold cutAt at h ⊢;split
  · rename_i e;rw [if_pos e] at h;cases h
  · rename_i e;rw [if_neg e] at h;exact zIQ h
theorem zIm {l:List UInt8} (h:l.length≤1000) (hd:l.all isDig=true):Fits (natS l):=by
 have h1:=zHJ _ l rfl hd;have h2:10^l.length≤16^l.length:=Nat.pow_le_pow_left (by decide) _;have h3:(16:Nat)^l.length=2^(4*l.length):=by rw [show (16:Nat)=2^4 from rfl,← Nat.pow_mul]
 by_cases h0:natS l=0
 · rw [h0];unfold Fits;simp
 · unfold Fits;have:=(Nat.log2_lt h0 (k:=4*l.length)).2 (by omega);omega
theorem split3 {top bot:List UInt8} {two:Bool}:zAU top=false∨(zAU top=true∧two=true∧zAU bot=false) ∨
 (zAU top=true∧two=false∧1<top.length∧(top.getD 0 0).toNat=48)∨(zAU top=true∧two=false∧1<top.length∧(top.getD 0 0).toNat≠48)∨(zAU top=true∧two=false∧¬ 1<top.length) ∨
 (zAU top=true∧two=true∧zAU bot=true∧1<top.length∧(top.getD 0 0).toNat=48)∨(zAU top=true∧two=true∧zAU bot=true∧1<top.length∧(top.getD 0 0).toNat≠48∧(bot.getD 0 0).toNat=48)∨(zAU top=true∧two=true∧zAU bot=true∧1<top.length∧(top.getD 0 0).toNat≠48∧(bot.getD 0 0).toNat≠48) ∨
 (zAU top=true∧two=true∧zAU bot=true∧¬ 1<top.length∧(bot.getD 0 0).toNat=48)∨(zAU top=true∧two=true∧zAU bot=true∧¬ 1<top.length∧(bot.getD 0 0).toNat≠48):=by
 generalize zAU top=d1;generalize zAU bot=d2;generalize (top.getD 0 0).toNat=t0;generalize (bot.getD 0 0).toNat=b0;by_cases h1:1<top.length<;>by_cases h2:t0=48<;>by_cases h3:b0=48<;>cases d1<;>cases d2<;>cases two<;>simp [h1,h2,h3]
theorem Parse_ok {l:List UInt8} (hlen:l.length<1000000000):Ret prog 66 #[S l] w (fun r w'=>∃ u,r = .tuple #[u,.int .i64 (zW l).2]∧IsR w' u (zW l).1):=by
 have hul:=zFM l;have hcl:=zGj 47 (zM l);have hbn := @zIQ 47 (zM l);rcases hcut:cutAt 47 (zM l) with ⟨top,bot,two⟩
 rw [hcut] at hcl hbn;simp only at hcl hbn;obtain ⟨s,hs⟩:∃ s:Int,(if below l=true then (-1:Int) else 1)=s:=⟨_,rfl⟩;have hsi:(below l=true∧s = -1)∨(below l=false∧s=1):=by
  cases hb:below l with
  | true=>rw [hb] at hs;exact .inl ⟨rfl,hs.symm⟩
  | false=>rw [hb] at hs;exact .inr ⟨rfl,hs.symm⟩
 have hsb:decide (s<0)=below l:=by rcases hsi with ⟨h1,h2⟩ | ⟨h1,h2⟩<;>rw [h1,h2]<;>rfl
 have E0:Ext w w:=Ext.refl w;refine J0 96 func66 rfl (rj fun K => ?_);refine K1 (zd zero50 fun b1 w1 hb hE hB1 hs => ?_);have hgb1:w.heap.size≤b1:=by rw [hb];exact E0.size
 replace E0:=E0.trans hE;clear hE hs hb;refine ag (rm [0,2] K ?_);refine rJ fun K=>K1 (j1 E0 hB1.ext hb157 (signed_ok) fun v1_1 w2 E0 hB1 hr => ?_);rw [hs] at hr;subst hr;refine mv (xt rfl (xt rfl (ag (ag (rm [2,4,5] K ?_)))));refine rJ fun K=>K1 (j1 E0 hB1.ext hb158 (split_ok (c:=47) (by omega)) fun v2_1 w3 E0 hB1 hr => ?_);rw [hcut] at hr;subst hr;refine mv (xt rfl (xt rfl (xt rfl (ag (ag (ag (rm [2,5,6,7,8] K ?_)))))));refine zBO (fun ρ w'=>Keep ρ [(2,.pointer (some ⟨b1,0,none⟩)),(5,.int .i64 s),(6,S top),(7,S bot),(8,.bool two)]∧Ext w w'∧Blk w' b1 50 [Value.int .i64 0,Value.slice none 0 0,Value.slice none 0 0]∧zAO top=true∧(two=true→zAO bot=true∧bot≠[48])) ?_ ?_
 · refine zA ?_;rcases @split3 top bot two with hD1 | ⟨hD1,h2,hD2⟩ | ⟨hD1,h2,hl,h0⟩ | ⟨hD1,h2,hl,h0⟩ | ⟨hD1,h2,hl⟩ | ⟨hD1,h2,hD2,hl,h0⟩ | ⟨hD1,h2,hD2,hl,h0,hb0⟩ | ⟨hD1,h2,hD2,hl,h0,hb0⟩ | ⟨hD1,h2,hD2,hl,hb0⟩ | ⟨hD1,h2,hD2,hl,hb0⟩
   · subst_vars
     have he:zW l=(0,6):=zCg hcut (.inl (zID hD1));refine rI fun K=>K1 (j1 E0 hB1.ext hb159 (zAl (by omega)) fun v3_1 w4 E0 hB1 hr => ?_);obtain rfl:=hr.trans (congrArg Value.bool hD1);refine K1 (zr rfl (mv (K3 (K3 (K3 (K3 (K3 (K3 (pk rfl (mv (K3 (K3 (K3 (K3 (K3 ?_)))))))))))))));refine K3 (K3 (K3 (pk rfl (mv (K3 (K3 (K3 (K3 (K3 (K3 (pk rfl (rs [2,5,6,7,8,50] K ?_))))))))))));refine wct rfl (rj fun K=>K1 (zf (cs := #[.int .i64 0,.slice none 0 0,.slice none 0 0]) (by kernel_rfl) (K1 (runs_rstoreK rfl IsR.zero (Cell3.of hB1 rfl) fun _ w9 hU hN4 => ?_))));replace E0:=E0.upd hU hgb1;obtain ⟨cs4,hB4,hl4,hN4⟩:=hN4;refine ag (rm [2,3,5,8] K ?_);refine zB (zAG (zQ ?_));exact ⟨rfl,_,zh rfl rfl rfl rfl zCn hB4 hl4,E0,_,by rw [he];rfl,by rw [he];exact hN4⟩
   · subst h2;have he:zW l=(0,6):=zCg hcut (.inr (.inr ⟨rfl,.inl (zID hD2)⟩));refine rI fun K=>K1 (j1 E0 hB1.ext hb159 (zAl (by omega)) fun v3_1 w4 E0 hB1 hr => ?_);obtain rfl:=hr.trans (congrArg Value.bool hD1);refine K1 (zr rfl (mv (K7 (K7 (K7 (K2 (j1 E0 hB1.ext hb159 (zAl (by omega)) fun v3_7 w5 E0 hB1 hr => ?_)))))));obtain rfl:=hr.trans (congrArg Value.bool hD2);refine K2 (zr rfl (K2 (zs rfl (pk rfl (mv (K3 (K3 (K3 (K3 (K3 (K3 (K3 (K3 (pk rfl (mv (K3 ?_))))))))))))))));refine K3 (K3 (K3 (K3 (K3 (pk rfl (rs [2,5,6,7,8,50] K ?_))))));refine wct rfl (rj fun K=>K1 (zf (cs := #[.int .i64 0,.slice none 0 0,.slice none 0 0]) (by kernel_rfl) (K1 (runs_rstoreK rfl IsR.zero (Cell3.of hB1 rfl) fun _ w9 hU hN4 => ?_))));replace E0:=E0.upd hU hgb1;obtain ⟨cs4,hB4,hl4,hN4⟩:=hN4;refine ag (rm [2,3,5,8] K ?_);refine zB (zAG (zQ ?_));exact ⟨rfl,_,zh rfl rfl rfl rfl zCn hB4 hl4,E0,_,by rw [he];rfl,by rw [he];exact hN4⟩
   · subst h2;have he:zW l=(0,6):=zCg hcut (.inl (zIf hl (UInt8.toNat_inj.1 (show (top.getD 0 0).toNat=(48:UInt8).toNat from h0))));refine rI fun K=>K1 (j1 E0 hB1.ext hb159 (zAl (by omega)) fun v3_1 w4 E0 hB1 hr => ?_);obtain rfl:=hr.trans (congrArg Value.bool hD1);refine K1 (zr rfl (mv (K7 (K7 (K3 (K3 (K3 (K2 (zs rfl (pk rfl (mv (K7 (K2 (zw zAH rfl (K2 (zF (v := .bool true) rfl rfl (congrArg (fun z=>some (Value.bool z)) (decide_eq_true (by omega))) (K7 (K7 ?_))))))))))))))))));refine K2 (zAV (n:=0) zAH rfl rfl (by omega) (K2 (zF (v := .bool true) rfl rfl (congrArg (fun z=>some (Value.bool z)) (beq_iff_eq.2 (by omega))) (K2 (zs rfl (pk rfl (mv (K3 (K3 (K3 (K3 (K3 (K3 (pk rfl (rs [2,5,6,7,8,50] K ?_)))))))))))))));refine wct rfl (rj fun K=>K1 (zf (cs := #[.int .i64 0,.slice none 0 0,.slice none 0 0]) (by kernel_rfl) (K1 (runs_rstoreK rfl IsR.zero (Cell3.of hB1 rfl) fun _ w9 hU hN4 => ?_))));replace E0:=E0.upd hU hgb1;obtain ⟨cs4,hB4,hl4,hN4⟩:=hN4;refine ag (rm [2,3,5,8] K ?_);refine zB (zAG (zQ ?_));exact ⟨rfl,_,zh rfl rfl rfl rfl zCn hB4 hl4,E0,_,by rw [he];rfl,by rw [he];exact hN4⟩
   · subst h2;have hpt:=(zFo hD1 (fun e=>h0 (by rw [e];rfl))).1;have hpb:false=true→zAO bot=true∧bot≠[48]:=fun h=>by cases h
     refine rI fun K=>K1 (j1 E0 hB1.ext hb159 (zAl (by omega)) fun v3_1 w4 E0 hB1 hr => ?_);obtain rfl:=hr.trans (congrArg Value.bool hD1);refine K1 (zr rfl (mv (K7 (K7 (K3 (K3 (K3 (K2 (zs rfl (pk rfl (mv (K7 (K2 (zw zAH rfl (K2 (zF (v := .bool true) rfl rfl (congrArg (fun z=>some (Value.bool z)) (decide_eq_true (by omega))) (K7 (K7 ?_))))))))))))))))));refine K2 (zAV (n:=0) zAH rfl rfl (by omega) (K2 (zF (v := .bool false) rfl rfl (congrArg (fun z=>some (Value.bool z)) (beq_eq_false_iff_ne.2 (by omega))) (K2 (zs rfl (pk rfl (mv (K7 (K7 (K3 (K3 (K3 (K2 (zs rfl (pk rfl (rs [2,5,6,7,8,50] K ?_))))))))))))))));exact wcf rfl (zm (zP ⟨rfl,(kp rfl),E0,hB1,hpt,hpb⟩))
   · subst h2;have hpt:=zJY (by omega) hD1;have hpb:false=true→zAO bot=true∧bot≠[48]:=fun h=>by cases h
     refine rI fun K=>K1 (j1 E0 hB1.ext hb159 (zAl (by omega)) fun v3_1 w4 E0 hB1 hr => ?_);obtain rfl:=hr.trans (congrArg Value.bool hD1);refine K1 (zr rfl (mv (K7 (K7 (K3 (K3 (K3 (K2 (zs rfl (pk rfl (mv (K7 (K2 (zw zAH rfl (K2 (zF (v := .bool false) rfl rfl (congrArg (fun z=>some (Value.bool z)) (decide_eq_false (by omega))) (K7 (K3 ?_))))))))))))))))));refine K3 (K3 (K2 (zs rfl (pk rfl (mv (K7 (K7 (K3 (K3 (K3 (K2 (zs rfl (pk rfl (rs [2,5,6,7,8,50] K ?_))))))))))))));exact wcf rfl (zm (zP ⟨rfl,(kp rfl),E0,hB1,hpt,hpb⟩))
   · subst h2;have he:zW l=(0,6):=zCg hcut (.inl (zIf hl (UInt8.toNat_inj.1 (show (top.getD 0 0).toNat=(48:UInt8).toNat from h0))));refine rI fun K=>K1 (j1 E0 hB1.ext hb159 (zAl (by omega)) fun v3_1 w4 E0 hB1 hr => ?_);obtain rfl:=hr.trans (congrArg Value.bool hD1);refine K1 (zr rfl (mv (K7 (K7 (K7 (K2 (j1 E0 hB1.ext hb159 (zAl (by omega)) fun v3_7 w5 E0 hB1 hr => ?_)))))));obtain rfl:=hr.trans (congrArg Value.bool hD2);refine K2 (zr rfl (K2 (zs rfl (pk rfl (mv (K7 (K2 (zw zAH rfl (K2 (zF (v := .bool true) rfl rfl (congrArg (fun z=>some (Value.bool z)) (decide_eq_true (by omega))) (K7 (K7 (K2 (zAV (n:=0) zAH rfl rfl (by omega) (K2 (zF (v := .bool true) rfl rfl (congrArg (fun z=>some (Value.bool z)) (beq_iff_eq.2 (by omega))) (K2 (zs rfl (pk rfl (mv (K3 ?_)))))))))))))))))))));refine K3 (K3 (K3 (K3 (K3 (pk rfl (rs [2,5,6,7,8,50] K ?_))))));refine wct rfl (rj fun K=>K1 (zf (cs := #[.int .i64 0,.slice none 0 0,.slice none 0 0]) (by kernel_rfl) (K1 (runs_rstoreK rfl IsR.zero (Cell3.of hB1 rfl) fun _ w9 hU hN4 => ?_))));replace E0:=E0.upd hU hgb1;obtain ⟨cs4,hB4,hl4,hN4⟩:=hN4;refine ag (rm [2,3,5,8] K ?_);refine zB (zAG (zQ ?_));exact ⟨rfl,_,zh rfl rfl rfl rfl zCn hB4 hl4,E0,_,by rw [he];rfl,by rw [he];exact hN4⟩
   · subst h2;have hb1:=zFm hD2;have he:zW l=(0,6):=zCg hcut (.inr (.inr ⟨rfl,(zNP hD2 (UInt8.toNat_inj.1 (show (bot.getD 0 0).toNat=(48:UInt8).toNat from hb0))).imp id .inl⟩));refine rI fun K=>K1 (j1 E0 hB1.ext hb159 (zAl (by omega)) fun v3_1 w4 E0 hB1 hr => ?_);obtain rfl:=hr.trans (congrArg Value.bool hD1);refine K1 (zr rfl (mv (K7 (K7 (K7 (K2 (j1 E0 hB1.ext hb159 (zAl (by omega)) fun v3_7 w5 E0 hB1 hr => ?_)))))));obtain rfl:=hr.trans (congrArg Value.bool hD2);refine K2 (zr rfl (K2 (zs rfl (pk rfl (mv (K7 (K2 (zw zAH rfl (K2 (zF (v := .bool true) rfl rfl (congrArg (fun z=>some (Value.bool z)) (decide_eq_true (by omega))) (K7 (K7 (K2 (zAV (n:=0) zAH rfl rfl (by omega) (K2 (zF (v := .bool false) rfl rfl (congrArg (fun z=>some (Value.bool z)) (beq_eq_false_iff_ne.2 (by omega))) (K2 (zs rfl (pk rfl (mv (K7 ?_)))))))))))))))))))));refine K7 (K7 (K2 (zAV (n:=0) zAH rfl rfl hb1 (K2 (zF (v := .bool true) rfl rfl (congrArg (fun z=>some (Value.bool z)) (beq_iff_eq.2 (by omega))) (K2 (zs rfl (pk rfl (rs [2,5,6,7,8,50] K ?_)))))))));refine wct rfl (rj fun K=>K1 (zf (cs := #[.int .i64 0,.slice none 0 0,.slice none 0 0]) (by kernel_rfl) (K1 (runs_rstoreK rfl IsR.zero (Cell3.of hB1 rfl) fun _ w9 hU hN4 => ?_))));replace E0:=E0.upd hU hgb1;obtain ⟨cs4,hB4,hl4,hN4⟩:=hN4;refine ag (rm [2,3,5,8] K ?_)
     refine zB (zAG (zQ ?_));exact ⟨rfl,_,zh rfl rfl rfl rfl zCn hB4 hl4,E0,_,by rw [he];rfl,by rw [he];exact hN4⟩
   · subst h2;have hb1:=zFm hD2;have hpt:=(zFo hD1 (fun e=>h0 (by rw [e];rfl))).1;have hpb:true=true→zAO bot=true∧bot≠[48]:=fun _=>zFo hD2 (fun e=>hb0 (by rw [e];rfl));refine rI fun K=>K1 (j1 E0 hB1.ext hb159 (zAl (by omega)) fun v3_1 w4 E0 hB1 hr => ?_);obtain rfl:=hr.trans (congrArg Value.bool hD1);refine K1 (zr rfl (mv (K7 (K7 (K7 (K2 (j1 E0 hB1.ext hb159 (zAl (by omega)) fun v3_7 w5 E0 hB1 hr => ?_)))))));obtain rfl:=hr.trans (congrArg Value.bool hD2);refine K2 (zr rfl (K2 (zs rfl (pk rfl (mv (K7 (K2 (zw zAH rfl (K2 (zF (v := .bool true) rfl rfl (congrArg (fun z=>some (Value.bool z)) (decide_eq_true (by omega))) (K7 (K7 (K2 (zAV (n:=0) zAH rfl rfl (by omega) (K2 (zF (v := .bool false) rfl rfl (congrArg (fun z=>some (Value.bool z)) (beq_eq_false_iff_ne.2 (by omega))) (K2 (zs rfl (pk rfl (mv (K7 ?_)))))))))))))))))))));refine K7 (K7 (K2 (zAV (n:=0) zAH rfl rfl hb1 (K2 (zF (v := .bool false) rfl rfl (congrArg (fun z=>some (Value.bool z)) (beq_eq_false_iff_ne.2 (by omega))) (K2 (zs rfl (pk rfl (rs [2,5,6,7,8,50] K ?_)))))))));exact wcf rfl (zm (zP ⟨rfl,(kp rfl),E0,hB1,hpt,hpb⟩))
   · subst h2;have hb1:=zFm hD2;have he:zW l=(0,6):=zCg hcut (.inr (.inr ⟨rfl,(zNP hD2 (UInt8.toNat_inj.1 (show (bot.getD 0 0).toNat=(48:UInt8).toNat from hb0))).imp id .inl⟩));refine rI fun K=>K1 (j1 E0 hB1.ext hb159 (zAl (by omega)) fun v3_1 w4 E0 hB1 hr => ?_);obtain rfl:=hr.trans (congrArg Value.bool hD1);refine K1 (zr rfl (mv (K7 (K7 (K7 (K2 (j1 E0 hB1.ext hb159 (zAl (by omega)) fun v3_7 w5 E0 hB1 hr => ?_)))))));obtain rfl:=hr.trans (congrArg Value.bool hD2);refine K2 (zr rfl (K2 (zs rfl (pk rfl (mv (K7 (K2 (zw zAH rfl (K2 (zF (v := .bool false) rfl rfl (congrArg (fun z=>some (Value.bool z)) (decide_eq_false (by omega))) (K7 (K3 (K3 (K3 (K2 (zs rfl (pk rfl (mv (K7 ?_)))))))))))))))))));refine K7 (K7 (K2 (zAV (n:=0) zAH rfl rfl hb1 (K2 (zF (v := .bool true) rfl rfl (congrArg (fun z=>some (Value.bool z)) (beq_iff_eq.2 (by omega))) (K2 (zs rfl (pk rfl (rs [2,5,6,7,8,50] K ?_)))))))));refine wct rfl (rj fun K=>K1 (zf (cs := #[.int .i64 0,.slice none 0 0,.slice none 0 0]) (by kernel_rfl) (K1 (runs_rstoreK rfl IsR.zero (Cell3.of hB1 rfl) fun _ w9 hU hN4 => ?_))));replace E0:=E0.upd hU hgb1;obtain ⟨cs4,hB4,hl4,hN4⟩:=hN4;refine ag (rm [2,3,5,8] K ?_);refine zB (zAG (zQ ?_));exact ⟨rfl,_,zh rfl rfl rfl rfl zCn hB4 hl4,E0,_,by rw [he];rfl,by rw [he];exact hN4⟩
   · subst h2;have hb1:=zFm hD2;have hpt:=zJY (by omega) hD1;have hpb:true=true→zAO bot=true∧bot≠[48]:=fun _=>zFo hD2 (fun e=>hb0 (by rw [e];rfl));refine rI fun K=>K1 (j1 E0 hB1.ext hb159 (zAl (by omega)) fun v3_1 w4 E0 hB1 hr => ?_);obtain rfl:=hr.trans (congrArg Value.bool hD1);refine K1 (zr rfl (mv (K7 (K7 (K7 (K2 (j1 E0 hB1.ext hb159 (zAl (by omega)) fun v3_7 w5 E0 hB1 hr => ?_)))))));obtain rfl:=hr.trans (congrArg Value.bool hD2);refine K2 (zr rfl (K2 (zs rfl (pk rfl (mv (K7 (K2 (zw zAH rfl (K2 (zF (v := .bool false) rfl rfl (congrArg (fun z=>some (Value.bool z)) (decide_eq_false (by omega))) (K7 (K3 (K3 (K3 (K2 (zs rfl (pk rfl (mv (K7 ?_)))))))))))))))))));refine K7 (K7 (K2 (zAV (n:=0) zAH rfl rfl hb1 (K2 (zF (v := .bool false) rfl rfl (congrArg (fun z=>some (Value.bool z)) (beq_eq_false_iff_ne.2 (by omega))) (K2 (zs rfl (pk rfl (rs [2,5,6,7,8,50] K ?_)))))))));exact wcf rfl (zm (zP ⟨rfl,(kp rfl),E0,hB1,hpt,hpb⟩))
 · clear E0 hB1;rintro ρ2 w2 ⟨hk,E0,hB1,hpt,hpb⟩;refine wpe_k _ hk ?_;clear hk ρ2;refine zBO (fun ρ w'=>Keep ρ [(2,.pointer (some ⟨b1,0,none⟩)),(5,.int .i64 s),(6,S top),(7,S bot),(8,.bool two)]∧Ext w w'∧Blk w' b1 50 [Value.int .i64 0,Value.slice none 0 0,Value.slice none 0 0]∧¬ (top=[48]∧(below l=true∨two=true))∧(two=true→bot≠[49])) ?_ ?_
   · refine zA ?_;rcases (show ((top==[48])=false∧(bot==[49])=true)∨((top==[48])=false∧(bot==[49])=false)∨((top==[48])=true∧below l=true∧s = -1)∨((top==[48])=true∧(below l=false∧s=1)∧two=true)∨((top==[48])=true∧(below l=false∧s=1)∧two=false) from by
      rcases hsi with ⟨h1,h2⟩ | ⟨h1,h2⟩<;>cases (top==[48])<;>cases (bot==[49])<;>cases two<;>simp [h1,h2]) with ⟨h48,h49⟩ | ⟨h48,h49⟩ | ⟨h48,hbl,hs1⟩ | ⟨h48,⟨hbl,hs1⟩,h2⟩ | ⟨h48,⟨hbl,hs1⟩,h2⟩
     · have h2:two=true:=by
        cases two with
        | true=>rfl
        | false=>rw [hbn rfl] at h49;cases h49
       have he:zW l=(0,6):=zCg hcut (.inr (.inr ⟨h2,.inr (.inr (eq_of_beq h49))⟩));refine rI fun K=>K1 (zAT rfl rfl ?_);rw [h48];refine mv (K3 (K3 (K3 (K3 (K3 (pk rfl (mv (K7 (K2 (zAT rfl rfl ?_))))))))));rw [h49];refine pk rfl (rs [2,5,6,7,8,64] K ?_);refine wct rfl (rj fun K=>K1 (zf (cs := #[.int .i64 0,.slice none 0 0,.slice none 0 0]) (by kernel_rfl) (K1 (runs_rstoreK rfl IsR.zero (Cell3.of hB1 rfl) fun _ w9 hU hN4 => ?_))));replace E0:=E0.upd hU hgb1;obtain ⟨cs4,hB4,hl4,hN4⟩:=hN4;refine ag (rm [2,3,5,8] K ?_);refine zB (zAG (zQ ?_));exact ⟨rfl,_,zh rfl rfl rfl rfl zCn hB4 hl4,E0,_,by rw [he];rfl,by rw [he];exact hN4⟩
     · have hne:¬ (top=[48]∧(below l=true∨two=true)):=fun h=>by rw [h.1] at h48;cases h48
       have hne9:two=true→bot≠[49]:=fun _ e=>by rw [e] at h49;cases h49
       refine rI fun K=>K1 (zAT rfl rfl ?_);rw [h48];refine mv (K3 (K3 (K3 (K3 (K3 (pk rfl (mv (K7 (K2 (zAT rfl rfl ?_))))))))));rw [h49];refine pk rfl (rs [2,5,6,7,8,64] K ?_);exact wcf rfl (zm (zP ⟨rfl,(kp rfl),E0,hB1,hne,hne9⟩))
     · have he:zW l=(0,6):=zCg hcut (.inr (.inl ⟨eq_of_beq h48,.inl hbl⟩));refine rI fun K=>K1 (zAT rfl rfl ?_);rw [h48];refine mv (K7 (K2 (zF (v := .bool true) rfl rfl (congrArg (fun z=>some (Value.bool z)) (decide_eq_true (by omega))) (K7 (K3 (K2 (zs rfl (pk rfl (mv (K3 (K3 (pk rfl (rs [2,5,6,7,8,64] K ?_)))))))))))));refine wct rfl (rj fun K=>K1 (zf (cs := #[.int .i64 0,.slice none 0 0,.slice none 0 0]) (by kernel_rfl) (K1 (runs_rstoreK rfl IsR.zero (Cell3.of hB1 rfl) fun _ w9 hU hN4 => ?_))));replace E0:=E0.upd hU hgb1;obtain ⟨cs4,hB4,hl4,hN4⟩:=hN4;refine ag (rm [2,3,5,8] K ?_);refine zB (zAG (zQ ?_));exact ⟨rfl,_,zh rfl rfl rfl rfl zCn hB4 hl4,E0,_,by rw [he];rfl,by rw [he];exact hN4⟩
     · subst h2;have he:zW l=(0,6):=zCg hcut (.inr (.inl ⟨eq_of_beq h48,.inr rfl⟩));refine rI fun K=>K1 (zAT rfl rfl ?_);rw [h48];refine mv (K7 (K2 (zF (v := .bool false) rfl rfl (congrArg (fun z=>some (Value.bool z)) (decide_eq_false (by omega))) (K7 (K7 (K2 (zs rfl (pk rfl (mv (K3 (K3 (pk rfl (rs [2,5,6,7,8,64] K ?_)))))))))))));refine wct rfl (rj fun K=>K1 (zf (cs := #[.int .i64 0,.slice none 0 0,.slice none 0 0]) (by kernel_rfl) (K1 (runs_rstoreK rfl IsR.zero (Cell3.of hB1 rfl) fun _ w9 hU hN4 => ?_))));replace E0:=E0.upd hU hgb1;obtain ⟨cs4,hB4,hl4,hN4⟩:=hN4;refine ag (rm [2,3,5,8] K ?_);refine zB (zAG (zQ ?_));exact ⟨rfl,_,zh rfl rfl rfl rfl zCn hB4 hl4,E0,_,by rw [he];rfl,by rw [he];exact hN4⟩
     · subst h2;have h49:(bot==[49])=false:=by rw [hbn rfl];rfl
       have hne:¬ (top=[48]∧(below l=true∨false=true)):=fun h=>by rcases h.2 with h | h<;>simp_all
       have hne9:false=true→bot≠[49]:=fun h=>by cases h
       refine rI fun K=>K1 (zAT rfl rfl ?_);rw [h48];refine mv (K7 (K2 (zF (v := .bool false) rfl rfl (congrArg (fun z=>some (Value.bool z)) (decide_eq_false (by omega))) (K7 (K7 (K2 (zs rfl (pk rfl (mv (K7 (K2 (zAT rfl rfl ?_))))))))))));rw [h49];refine pk rfl (rs [2,5,6,7,8,64] K ?_);exact wcf rfl (zm (zP ⟨rfl,(kp rfl),E0,hB1,hne,hne9⟩))
   · clear E0 hB1;rintro ρ2 w2 ⟨hk,E0,hB1,hne,hne9⟩;refine wpe_k _ hk ?_;clear hk ρ2;refine zA (zA ?_);rcases (show 1000<top.length∨(¬ 1000<top.length∧1000<bot.length)∨(¬ 1000<top.length∧¬ 1000<bot.length) from by omega) with k1 | ⟨k1,k2⟩ | ⟨k1,k2⟩
     · have he:zW l=(0,3):=by rw [zKJ hcut hpt hne (fun h=>⟨hpb h,hne9 h⟩),if_pos (.inl k1)]
       refine rI fun K=>K1 (zw zAH rfl (K9 true rfl (decide_eq_true (by omega)) (mv (K3 (K3 (K3 (pk rfl (rs [2,5,6,7,8,73] K ?_))))))));refine wct rfl (rj fun K=>K1 (zf (cs := #[.int .i64 0,.slice none 0 0,.slice none 0 0]) (by kernel_rfl) (K1 (runs_rstoreK rfl IsR.zero (Cell3.of hB1 rfl) fun _ w9 hU hN4 => ?_))));replace E0:=E0.upd hU hgb1;obtain ⟨cs4,hB4,hl4,hN4⟩:=hN4;refine ag (rm [2,3,5,8] K ?_);refine zB (zU (zQ ?_));exact ⟨rfl,_,zh rfl rfl rfl rfl zCn hB4 hl4,E0,_,by rw [he];rfl,by rw [he];exact hN4⟩
     · have he:zW l=(0,3):=by rw [zKJ hcut hpt hne (fun h=>⟨hpb h,hne9 h⟩),if_pos (.inr k2)]
       refine rI fun K=>K1 (zw zAH rfl (K9 false rfl (decide_eq_false (by omega)) (mv (K7 (K2 (zw zAH rfl (K2 (zF (v := .bool true) rfl rfl (congrArg (fun z=>some (Value.bool z)) (decide_eq_true (by omega))) (pk rfl (rs [2,5,6,7,8,73] K ?_))))))))));refine wct rfl (rj fun K=>K1 (zf (cs := #[.int .i64 0,.slice none 0 0,.slice none 0 0]) (by kernel_rfl) (K1 (runs_rstoreK rfl IsR.zero (Cell3.of hB1 rfl) fun _ w9 hU hN4 => ?_))));replace E0:=E0.upd hU hgb1;obtain ⟨cs4,hB4,hl4,hN4⟩:=hN4;refine ag (rm [2,3,5,8] K ?_);refine zB (zU (zQ ?_));exact ⟨rfl,_,zh rfl rfl rfl rfl zCn hB4 hl4,E0,_,by rw [he];rfl,by rw [he];exact hN4⟩
     · have he0:=zKJ hcut hpt hne (fun h=>⟨hpb h,hne9 h⟩);rw [if_neg (by omega)] at he0;refine rI fun K=>K1 (zw zAH rfl (K9 false rfl (decide_eq_false (by omega)) (mv (K7 (K2 (zw zAH rfl (K2 (zF (v := .bool false) rfl rfl (congrArg (fun z=>some (Value.bool z)) (decide_eq_false (by omega))) (pk rfl (rs [2,5,6,7,8,73] K ?_))))))))));refine wcf rfl (sk (zA (zA ?_)));cases hw:two
       · subst hw;have he:zW l=(qOf (below l) (natS top) 1,0):=by rw [he0,if_pos rfl]
         refine rI fun K=>K1 (zr rfl (rs [2,5,6,7,8,76] K ?_));refine wct rfl (rJ fun K=>mv (K1 (j1 E0 hB1.ext hb161 (zHD (by omega) (zAs hpt)) fun v10_2 w4 E0 hB1 N1=>K1 (j2 E0 hB1.ext N1.ext hb162 (zFy _) fun v10_3 w5 E0 hB1 N1 N2 => ?_))));refine K1 (j3 E0 hB1.ext N1.ext N2.ext hb160 (made_ok (by omega) N1 N2 (by decide) (zIm (by omega) (zAs hpt)) (by unfold Fits;decide +kernel)) fun v10_4 w6 E0 hB1 N1 N2 N3 => ?_);rw [if_neg (by omega),hsb] at N3;refine K1 (runs_rstoreK rfl N3 (Cell3.of hB1 rfl) fun _ w9 hU hN4 => ?_);replace E0:=E0.upd hU hgb1;obtain ⟨cs4,hB4,hl4,hN4⟩:=hN4;refine ag (rm [2,3,5,8] K ?_);refine zB (zU (zQ ?_));exact ⟨rfl,_,zh rfl rfl rfl rfl zCn hB4 hl4,E0,_,by rw [he];rfl,by rw [he];exact hN4⟩
       · subst hw;rw [if_neg (by decide)] at he0;obtain ⟨⟨hpb1,hpb2⟩,-⟩:(zAO bot=true∧bot≠[48])∧bot≠[49]:=⟨hpb rfl,hne9 rfl⟩;have hb0:=(zEZ hpb1 (beq_eq_false_iff_ne.2 hpb2)).1;have ha0:natS top≠0:=(zEZ hpt (beq_eq_false_iff_ne.2 (fun e=>hne ⟨e,.inr rfl⟩))).1;have hfa:=zIm (by omega) (zAs hpt);have hfb:=zIm (by omega) (zAs hpb1);refine rI fun K=>K1 (zr rfl (rs [2,5,6,7,8,76] K ?_));refine wcf rfl (sk (rJ fun K=>K1 (j1 E0 hB1.ext hb161 (zHD (by omega) (zAs hpt)) fun va w4 E0 hB1 N1=>mv (K1 (j2 E0 hB1.ext N1.ext hb161 (zHD (by omega) (zAs hpb1)) fun vb w5 E0 hB1 N1 N2=>ag (ag (rm [2,5,8,9,10] K ?_)))))));refine zA (rJ fun K=>mv (K1 (j3 E0 hB1.ext N1.ext N2.ext hb164 (zEG N1 N2 hfa hfb hb0) fun v12_2 w6 E0 hB1 N1 N2 N3=>K1 (j4 E0 hB1.ext N1.ext N2.ext N3.ext hb163 (zDL N3) fun v12_3 w7 E0 hB1 N1 N2 N3 hr => ?_))));subst hr;refine K1 (zr rfl (rm [2,5,8,9,10,90] K ?_));refine K0 rfl ?_ ?_<;>intro hc
         · have hg:Nat.gcd (natS top) (natS bot)≠1:=by simpa using hc
           clear hc;have he:zW l=(0,6):=by rw [he0,if_pos hg]
           refine rj fun K=>K1 (zf (cs := #[.int .i64 0,.slice none 0 0,.slice none 0 0]) (by kernel_rfl) (K1 (runs_rstoreK rfl IsR.zero (Cell3.of hB1 rfl) fun _ w9 hU hN4 => ?_)));replace E0:=E0.upd hU hgb1;obtain ⟨cs4,hB4,hl4,hN4⟩:=hN4;refine ag (rm [2,3,5,8] K ?_);refine zB (zU (zQ ?_));exact ⟨rfl,_,zh rfl rfl rfl rfl zCn hB4 hl4,E0,_,by rw [he];rfl,by rw [he];exact hN4⟩
         · have hg:Nat.gcd (natS top) (natS bot)=1:=by simpa using hc
           clear hc;have he:zW l=(qOf (below l) (natS top) (natS bot),0):=by rw [he0,if_neg (fun h=>h hg)]
           refine sk (rJ fun K=>mv (mv ?_));have M:=IsR.mkS (s:=s) (by omega) ha0 hb0 (by rw [hg,Nat.div_one];exact N1) (by rw [hg,Nat.div_one];exact N2);rw [hsb] at M;obtain ⟨p1,ds1,k1,rfl,-⟩:=N1;obtain ⟨p2,ds2,k2,rfl,-⟩:=N2;refine K1 (zf (cs := #[.int .i64 s,.slice p1 ds1.length k1,.slice p2 ds2.length k2]) (by kernel_rfl) (K1 (runs_rstoreK rfl M (Cell3.of hB1 rfl) fun _ w9 hU hN4 => ?_)));replace E0:=E0.upd hU hgb1;obtain ⟨cs4,hB4,hl4,hN4⟩:=hN4;refine ag (rm [2,3,5,8] K ?_);refine zB (zQ ?_);exact ⟨rfl,_,zh rfl rfl rfl rfl zCn hB4 hl4,E0,_,by rw [he];rfl,by rw [he];exact hN4⟩
end Go.Proofs.YtjiendlfobjanaaGreatDoor.R
namespace Go.Proofs.YtjiendlfobjanaaGreatDoor.R
open Go Go.RowKit Go.Proofs Tryz
variable {A A':List Rat} {T ty:TypeId} {af:Array Edge} {b c i sz':Nat} {cs:List Value} {g:Option (Nat×Bool)} {pos:String} {r:Option Nat} {v:Value} {w w' w0:World} {σ:Operand→Value}
theorem zIc:prog.underlying 26=some (.slice 50):=by kernel_rfl
theorem zPW:(prog.info? 50).map (fun i=>(i.zero,i.size,i.bytes))=some (some (.agg #[.int .i64 0,.slice none 0 0,.slice none 0 0]),3,56):=by kernel_rfl
theorem info50':(prog.info? 50).map (fun i=>(i.zero,i.size))=some (some (.agg #[.int .i64 0,.slice none 0 0,.slice none 0 0]),3):=by kernel_rfl
theorem noR1 (hB:Blk w b T cs) (hT:T≠2):NoR [b] w:=fun c hc=>by
 rw [List.mem_singleton.1 hc];exact ⟨T,cs,hB,hT⟩
def AccP (sz:Nat) (w:World) (v:Value) (A:List Rat):Prop :=
 ∃ p c,v = .slice p A.length c∧A.length≤c∧((A=[]∧p=none∧c=0)∨∃ b cs,p=some ⟨b,0,none⟩∧sz≤b∧Blk w b 50 cs∧cs.length=3*c∧∀ i,i<A.length→IsR w (.agg ((cs.drop (3*i)).take 3).toArray) (A.getD i 0))
theorem AccP.nil {sz:Nat}:AccP sz w (.slice none 0 0) []:=⟨none,0,rfl,Nat.le_refl _,.inl ⟨rfl,rfl,rfl⟩⟩
theorem AccP.ext {sz:Nat} (h:AccP sz w v A) (hx:Ext w w'):AccP sz w' v A:=by
 obtain ⟨p,c,h1,h2,h3⟩:=h;refine ⟨p,c,h1,h2,?_⟩;rcases h3 with h3 | ⟨b,cs,e1,e2,e3,e4,e5⟩
 · exact .inl h3
 · exact .inr ⟨b,cs,e1,e2,e3.ext hx,e4,fun i hi=>(e5 i hi).ext hx⟩
theorem AccP.new {sz:Nat} (h:AccP sz w v A) (hc:w.heap.size≤c):∀ b k,v = .slice (some ⟨b,0,none⟩) A.length k→b≠c:=fun b k e=>by
 obtain ⟨p,k',h1,h2,h3⟩:=h;rcases h3 with ⟨e1,e2,e3⟩ | ⟨b',cs',e1,e2,e3,e4,e5⟩
 · rw [h1,e2] at e;cases e
 · rw [h1,e1] at e;cases e;have:=e3.lt;omega
def AccB (b c:Nat) (w:World) (A:List Rat):Prop:=∃ cs,Blk w b 50 cs∧cs.length=3*c∧∀ i,i<A.length→IsR w (.agg ((cs.drop (3*i)).take 3).toArray) (A.getD i 0)
theorem AccP.cases {sz:Nat} (h:AccP sz w v A) :
 (∃ b c,v = .slice (some ⟨b,0,none⟩) A.length c∧A.length+1≤c∧sz≤b∧AccB b c w A)∨(∃ p c,v = .slice p A.length c∧c<A.length+1):=by
 obtain ⟨p,c,h1,h2,h3⟩:=h;by_cases hc:A.length+1≤c
 · rcases h3 with ⟨e1,e2,e3⟩ | ⟨b,cs,e1,e2,e3,e4,e5⟩
   · omega
   · exact .inl ⟨b,c,by rw [h1,e1],hc,e2,cs,e3,e4,e5⟩
 · exact .inr ⟨p,c,h1,by omega⟩
theorem AccB.acc {sz:Nat} (h:AccB b c w A) (hs:sz≤b) (hc:A.length≤c):AccP sz w (.slice (some ⟨b,0,none⟩) A.length c) A:=by
 obtain ⟨cs,h1,h2,h3⟩:=h;exact ⟨_,c,rfl,hc,.inr ⟨b,cs,rfl,hs,h1,h2,h3⟩⟩
def OneR (sz:Nat) (q:Rat) (v:Value) (w:World):Prop:=∃ b c1 c2 c3,v = .slice (some ⟨b,0,none⟩) 1 1∧sz≤b∧Blk w b 50 [c1,c2,c3]∧IsR w (.agg #[c1,c2,c3]) q
theorem OneR.ext {sz:Nat} {q:Rat} (h:OneR sz q v w) (hx:Ext w w'):OneR sz q v w':=by
 obtain ⟨b,c1,c2,c3,h1,h2,h3,h4⟩:=h;exact ⟨b,c1,c2,c3,h1,h2,h3.ext hx,h4.ext hx⟩
section laws
variable {d:Option Tmp}
theorem runs_one {sz:Nat} {y:Operand} {q:Rat} (hy:IsR w (σ y) q) (hs:sz≤w.heap.size):Runs prog r ⟨d,.buildSlice 26 1 #[(0,y)],ty,pos,af,g⟩ σ w (fun v w'=>Ext w w'∧OneR sz q v w'):=by
 have hy0:=hy;obtain ⟨n,dd,he,hn,hd⟩:=hy;rw [he] at hy0;refine zc (cs:=[.int .i64 q.num.sign,n,dd]) zIc info50' (by decide) (by decide) ?_ fun b w' hb hE hB hs'=>⟨hE,b,_,_,_,rfl,by omega,hB,hy0.ext hE⟩;show Instr.fill _ _ [(0,σ y)]=_;rw [he]
 kernel_rfl
theorem runs_appE_in {x y:Operand} {sz:Nat} {q:Rat} (hx:σ x = .slice (some ⟨b,0,none⟩) A.length c) (hc:A.length+1≤c) (hB:AccB b c w A) (hy:OneR sz q (σ y) w) :
 Runs prog r ⟨d,.call { callee := .builtin .append,args := #[x,y],argTypes := #[26,26] },ty,pos,af,g⟩ σ w (fun v w'=>ExtS [b] w w'∧AccB b c w' (A++[q])∧v = .slice (some ⟨b,0,none⟩) (A++[q]).length c):=by
 obtain ⟨cs,h1,h2,h3⟩:=hB;obtain ⟨b2,c1,c2,c3,e1,_,e2,hq⟩:=hy;have hok:[c1,c2,c3].all zDB=true:=by
  obtain ⟨n,dd,he,hn,hd⟩:=hq;obtain ⟨p1,ds1,k1,rfl,-⟩:=hn;obtain ⟨p2,ds2,k2,rfl,-⟩:=hd;cases he;rfl
 refine zBC (n:=3) zIc zIc zPW hx e1 h1 (Cells.blk e2) rfl hc (by omega) hok fun w' hU hN=>⟨hU.toS (by simp),?_,by simp⟩;rw [Nat.zero_add,show A.length*3=3*A.length from by omega] at hN;refine ⟨_,hN,by rw [zAz];exact h2,fun i hi => ?_⟩;by_cases hi':i<A.length
 · rw [zBM (by omega),if_neg (by omega),zDY hi'];exact (h3 i hi').upd hU h1 (by decide)
 · have:i=A.length:=by simp at hi;omega
   subst this;rw [zBM (by omega),if_pos rfl,zDX];exact hq.upd hU h1 (by decide)
theorem runs_appE_grow {x y:Operand} {p:Option Addr} {sz0 sz sz2:Nat} {q:Rat} (hx:σ x = .slice p A.length c) (hA:AccP sz0 w (.slice p A.length c) A) (hc:c<A.length+1) (hy:OneR sz2 q (σ y) w) (hl:A.length<4096) (hs:sz≤w.heap.size) :
 Runs prog r ⟨d,.call { callee := .builtin .append,args := #[x,y],argTypes := #[26,26] },ty,pos,af,g⟩ σ w (fun v w'=>Ext w w'∧AccP sz w' v (A++[q])):=by
 obtain ⟨b2,c1,c2,c3,e1,_,e2,hq⟩:=hy;obtain ⟨p',c',h1,h2,h3⟩:=hA;cases h1;have hnew:=zAi (A.length+1) c;have hold:∃ old,Cells w p 50 old∧old.length=A.length*3∧∀ i,i<A.length→IsR w (.agg ((old.drop (3*i)).take 3).toArray) (A.getD i 0):=by
  rcases h3 with ⟨e1,e2,e3⟩ | ⟨b,cs,e1,e2,e3,e4,e5⟩
  · subst e1;exact ⟨[],.inl rfl,rfl,fun i hi=>by simp at hi⟩
  · refine ⟨cs.take (A.length*3),.inr ⟨b,0,cs,e1,e3,by simp⟩,by simp;omega,fun i hi => ?_⟩;have:=e5 i hi;rwa [show ((cs.take (A.length*3)).drop (3*i)).take 3=(cs.drop (3*i)).take 3 from by
     rw [List.drop_take,List.take_take,Nat.min_eq_left (by omega)]]
 obtain ⟨old,o1,o2,o3⟩:=hold;refine zAW zIc zIc zPW rfl (by decide) hx e1 o1 o2 (Cells.blk e2) rfl (by omega) (by omega) fun w' rest c' g1 hE hB g2 _=>⟨hE,?_⟩;have hrl:rest.length=(c'-(A.length+1))*3:=by rw [g2];simp [Builtin.zeroCells,Value.cells]
 refine ⟨_,c',by simp,by simpa using g1,.inr ⟨w.heap.size,_,rfl,hs,hB,by simp [o2,hrl];omega,fun i hi => ?_⟩⟩;by_cases hi':i<A.length
 · rw [zDY hi',List.append_assoc,zDH (by omega)];exact (o3 i hi').ext hE
 · have:i=A.length:=by simp at hi;omega
   subst this;rw [zDX,List.append_assoc,List.drop_append_of_le_length (by omega),List.drop_of_length_le (by omega)];simpa using hq.ext hE
theorem runs_rAt {K:Value→World→Prop} {x:Operand} {q:Rat} (hx:σ x = .pointer (some ⟨b,0,none⟩)) (h:RAt b q w) (hk:∀ v,IsR w v q→K v w):Runs prog r ⟨d,.load 50 x,ty,pos,af,g⟩ σ w K:=by
 obtain ⟨cs,h1,h2,h3⟩:=h;refine zp (o:=0) zCn hx h1 (by omega) ?_;rw [List.drop_zero,List.take_of_length_le (by omega)];exact hk _ h3
end laws
theorem RAt.extS {S:List Nat} {q:Rat} (h:RAt b q w) (hx:ExtS S w w') (hb:b ∉ S) (hS:NoR S w):RAt b q w':=by
 obtain ⟨cs,h1,h2,h3⟩:=h;exact ⟨cs,h1.extS hx hb,h2,h3.extS hx hS⟩
theorem AccP.updT {sz:Nat} (h:AccP sz w v A) (hu:Upd c w w') (hc:Blk w c T cs) (hT:T≠2) (hne:∀ b k,v = .slice (some ⟨b,0,none⟩) A.length k→b≠c):AccP sz w' v A:=by
 obtain ⟨p,k,h1,h2,h3⟩:=h;refine ⟨p,k,h1,h2,?_⟩;rcases h3 with h3 | ⟨b,cs',e1,e2,e3,e4,e5⟩
 · exact .inl h3
 · exact .inr ⟨b,cs',e1,e2,e3.upd hu (hne b k (by rw [h1,e1])),e4,fun i hi=>(e5 i hi).upd hu hc hT⟩
theorem AccP.extS {S:List Nat} {sz:Nat} (h:AccP sz w v A) (hx:ExtS S w w') (hS:NoR S w) (hne:∀ b k,v = .slice (some ⟨b,0,none⟩) A.length k→b ∉ S):AccP sz w' v A:=by
 obtain ⟨p,k,h1,h2,h3⟩:=h;refine ⟨p,k,h1,h2,?_⟩;rcases h3 with h3 | ⟨b,cs',e1,e2,e3,e4,e5⟩
 · exact .inl h3
 · exact .inr ⟨b,cs',e1,e2,e3.extS hx (hne b k (by rw [h1,e1])),e4,fun i hi=>(e5 i hi).extS hx hS⟩
theorem AccP.fresh {S:List Nat} {sz:Nat} (h:AccP sz w v A) (hx:ExtS S w w') (hS:NoR S w) (hlt:∀ b∈S,b<sz):AccP sz w' v A:=by
 obtain ⟨p,k,h1,h2,h3⟩:=h;refine ⟨p,k,h1,h2,?_⟩;rcases h3 with h3 | ⟨b,cs',e1,e2,e3,e4,e5⟩
 · exact .inl h3
 · exact .inr ⟨b,cs',e1,e2,e3.extS hx (fun hb=>by have:=hlt b hb;omega),e4,fun i hi=>(e5 i hi).extS hx hS⟩
theorem AccP.sz {sz:Nat} (h:AccP sz w v A) (hs:sz'≤sz):AccP sz' w v A:=by
 obtain ⟨p,k,h1,h2,h3⟩:=h;refine ⟨p,k,h1,h2,?_⟩;rcases h3 with h3 | ⟨b,cs',e1,e2,e3⟩
 · exact .inl h3
 · exact .inr ⟨b,cs',e1,Nat.le_trans hs e2,e3⟩
theorem OneR.extSS {S:List Nat} {sz:Nat} {q:Rat} (h:OneR sz q v w) (hx:ExtS S w w') (hb:∀ b∈S,b<sz) (hS:NoR S w):OneR sz q v w':=by
 obtain ⟨b',c1,c2,c3,h1,h2,h3,h4⟩:=h;exact ⟨b',c1,c2,c3,h1,h2,h3.extS hx (fun h=>by have:=hb _ h;omega),h4.extS hx hS⟩
theorem AccB.extO {S:List Nat} {L:List Rat} (h:AccB b c w L) (hx:ExtS S w w') (hS:NoR S w) (he:w'.heap[b]? = w.heap[b]?):AccB b c w' L:=by
 obtain ⟨cs,h1,h2,h3⟩:=h;exact ⟨cs,by show w'.heap[b]? = _;rw [he];exact h1,h2,fun i hi=>(h3 i hi).extS hx hS⟩
theorem accStOkS {S:List Nat} (hB:AccB b c w0 A) (hS:NoR S w0) :
 (⟨i,b,fun w=>AccB b c w A,fun w=>AccB b c w A'⟩:StoreSpec).blk<w0.heap.size∧(⟨i,b,fun w=>AccB b c w A,fun w=>AccB b c w A'⟩:StoreSpec).pre w0∧∀ w w',ExtS S w0 w→ExtS S w w'→w'.heap[(⟨i,b,fun w=>AccB b c w A,fun w=>AccB b c w A'⟩:StoreSpec).blk]? = w.heap[(⟨i,b,fun w=>AccB b c w A,fun w=>AccB b c w A'⟩:StoreSpec).blk]? →
  ((⟨i,b,fun w=>AccB b c w A,fun w=>AccB b c w A'⟩:StoreSpec).pre w→(⟨i,b,fun w=>AccB b c w A,fun w=>AccB b c w A'⟩:StoreSpec).pre w')∧((⟨i,b,fun w=>AccB b c w A,fun w=>AccB b c w A'⟩:StoreSpec).post w→(⟨i,b,fun w=>AccB b c w A,fun w=>AccB b c w A'⟩:StoreSpec).post w'):=by
 have hlt:b<w0.heap.size:=by obtain ⟨cs,h1,_⟩:=hB;exact h1.lt
 exact ⟨hlt,hB,fun w w' h1 hx he=>⟨fun h=>h.extO hx (hS.ext h1) he,fun h=>h.extO hx (hS.ext h1) he⟩⟩
theorem AccB.blk (h:AccB b c w A):∃ cs,Blk w b 50 cs:=by obtain ⟨cs,h1,_⟩:=h;exact ⟨cs,h1⟩
end Go.Proofs.YtjiendlfobjanaaGreatDoor.R
namespace Go.Proofs.YtjiendlfobjanaaGreatDoor
open Go Go.RowKit Go.Proofs Tryz
theorem AccP.updT {sz c:Nat} {w w':World} {v:Value} {A:List Rat} {T:TypeId} {cs:List Value} (h:AccP sz w v A) (hu:Upd c w w') (hc:Blk w c T cs) (hT:T≠164) (hne:∀ b k,v = .slice (some ⟨b,0,none⟩) A.length k→b≠c):AccP sz w' v A:=by
 obtain ⟨p,k,h1,h2,h3⟩:=h;refine ⟨p,k,h1,h2,?_⟩;rcases h3 with h3 | ⟨b,cs',e1,e2,e3,e4,e5⟩
 · exact .inl h3
 · exact .inr ⟨b,cs',e1,e2,e3.upd hu (hne b k (by rw [h1,e1])),e4,fun i hi=>(e5 i hi).upd hu hc hT⟩
theorem AccP.extS {S:List Nat} {sz:Nat} {w w':World} {v:Value} {A:List Rat} (h:AccP sz w v A) (hx:ExtS S w w') (hS:NoW S w) (hne:∀ b k,v = .slice (some ⟨b,0,none⟩) A.length k→b ∉ S):AccP sz w' v A:=by
 obtain ⟨p,k,h1,h2,h3⟩:=h;refine ⟨p,k,h1,h2,?_⟩;rcases h3 with h3 | ⟨b,cs',e1,e2,e3,e4,e5⟩
 · exact .inl h3
 · exact .inr ⟨b,cs',e1,e2,e3.extS hx (hne b k (by rw [h1,e1])),e4,fun i hi=>(e5 i hi).extS hx hS⟩
theorem AccP.fresh {S:List Nat} {sz:Nat} {w w':World} {v:Value} {A:List Rat} (h:AccP sz w v A) (hx:ExtS S w w') (hS:NoW S w) (hlt:∀ b∈S,b<sz):AccP sz w' v A:=by
 obtain ⟨p,k,h1,h2,h3⟩:=h;refine ⟨p,k,h1,h2,?_⟩;rcases h3 with h3 | ⟨b,cs',e1,e2,e3,e4,e5⟩
 · exact .inl h3
 · exact .inr ⟨b,cs',e1,e2,e3.extS hx (fun hb=>by have:=hlt b hb;omega),e4,fun i hi=>(e5 i hi).extS hx hS⟩
theorem AccP.szle {sz sz':Nat} {w:World} {v:Value} {A:List Rat} (h:AccP sz w v A) (hs:sz'≤sz):AccP sz' w v A:=by
 obtain ⟨p,k,h1,h2,h3⟩:=h;refine ⟨p,k,h1,h2,?_⟩;rcases h3 with h3 | ⟨b,cs',e1,e2,e3⟩
 · exact .inl h3
 · exact .inr ⟨b,cs',e1,Nat.le_trans hs e2,e3⟩
theorem OneR.extSS {S:List Nat} {sz:Nat} {q:Rat} {v:Value} {w w':World} (h:OneR sz q v w) (hx:ExtS S w w') (hb:∀ b∈S,b<sz) (hS:NoW S w):OneR sz q v w':=by
 obtain ⟨b',c1,c2,c3,h1,h2,h3,h4⟩:=h;exact ⟨b',c1,c2,c3,h1,h2,h3.extS hx (fun h=>by have:=hb _ h;omega),h4.extS hx hS⟩
theorem AccB.extO {S:List Nat} {b c:Nat} {w w':World} {L:List Rat} (h:AccB b c w L) (hx:ExtS S w w') (hS:NoW S w) (he:w'.heap[b]? = w.heap[b]?):AccB b c w' L:=by
 obtain ⟨cs,h1,h2,h3⟩:=h;exact ⟨cs,by show w'.heap[b]? = _;rw [he];exact h1,h2,fun i hi=>(h3 i hi).extS hx hS⟩
theorem accStOkS {S:List Nat} {i b c:Nat} {A A':List Rat} {w0:World} (hB:AccB b c w0 A) (hS:NoW S w0) :
 (⟨i,b,fun w=>AccB b c w A,fun w=>AccB b c w A'⟩:StoreSpec).blk<w0.heap.size∧(⟨i,b,fun w=>AccB b c w A,fun w=>AccB b c w A'⟩:StoreSpec).pre w0∧∀ w w',ExtS S w0 w→ExtS S w w'→w'.heap[(⟨i,b,fun w=>AccB b c w A,fun w=>AccB b c w A'⟩:StoreSpec).blk]? = w.heap[(⟨i,b,fun w=>AccB b c w A,fun w=>AccB b c w A'⟩:StoreSpec).blk]? →
  ((⟨i,b,fun w=>AccB b c w A,fun w=>AccB b c w A'⟩:StoreSpec).pre w→(⟨i,b,fun w=>AccB b c w A,fun w=>AccB b c w A'⟩:StoreSpec).pre w')∧((⟨i,b,fun w=>AccB b c w A,fun w=>AccB b c w A'⟩:StoreSpec).post w→(⟨i,b,fun w=>AccB b c w A,fun w=>AccB b c w A'⟩:StoreSpec).post w'):=by
 have hlt:b<w0.heap.size:=by obtain ⟨cs,h1,_⟩:=hB;exact h1.lt
 exact ⟨hlt,hB,fun w w' h1 hx he=>⟨fun h=>h.extO hx (hS.ext h1) he,fun h=>h.extO hx (hS.ext h1) he⟩⟩
theorem AccB.blk {b c:Nat} {w:World} {A:List Rat} (h:AccB b c w A):∃ cs,Blk w b 37 cs:=by obtain ⟨cs,h1,_⟩:=h;exact ⟨cs,h1⟩
theorem all2 {α:Type} {p:α→Prop} {a b:α} (h1:p a) (h2:p b):∀ s∈[a,b],p s:=fun s hs=>by
 rcases List.mem_cons.1 hs with rfl | hs
 · exact h1
 · rw [List.mem_singleton.1 hs];exact h2
theorem Ext.updSS {S:List Nat} {w w1 w2:World} (h:Ext w w1) (hS:ExtS S w1 w2) (hb:∀ b∈S,w.heap.size≤b):Ext w w2 :=
 ⟨hS.os.trans (Below.os h),hS.tape.trans (Below.tape h),hS.output.trans (Below.output h),Nat.le_trans h.size hS.size,fun k hk=>(hS.block k (Nat.lt_of_lt_of_le hk h.size) (fun hm=>by have:=hb k hm;omega)).trans (Below.block h k hk)⟩
end Go.Proofs.YtjiendlfobjanaaGreatDoor
namespace Go.Proofs.YtjiendlfobjanaaGreatDoor
open Go Go.RowKit Go.Proofs Tryz
set_option maxRecDepth 10000
set_option maxHeartbeats 2000000
attribute [local irreducible] Runs WPE CallK Ret
variable {A:List Rat} {E a b c cap i ix len:Nat} {L:List (List UInt8)} {P:Program} {T T' ty:TypeId} {af:Array Edge} {cs cs':List Value} {g:Option (Nat×Bool)} {pos:String} {r:Option Nat} {v:Value} {w w':World} {σ:Operand→Value}
def IsVs (w:World) (v:Value) (L:List (List UInt8)):Prop:=∃ p cap,v = .slice p L.length cap∧L.length≤cap∧∀ i,i<L.length→∃ a:Addr,p=some a∧a.block<w.heap.size∧w.cell? (a.add i)=some (S (L.getD i []))
theorem zLu (a:Addr) (i:Nat):(a.add i).block=a.block:=by unfold Addr.add;split<;>rfl
theorem zBH {a:Addr} (hx:Ext w w') (hl:a.block<w.heap.size) (h:w.cell? (a.add i)=some v):w'.cell? (a.add i)=some v:=by
 rw [Below.cell hx (by rw [zLu];exact hl)];exact h
theorem IsVs.ext (h:IsVs w v L) (hx:Ext w w'):IsVs w' v L:=by
 obtain ⟨p,cap,h1,h2,h3⟩:=h;refine ⟨p,cap,h1,h2,fun i hi => ?_⟩;obtain ⟨a,e1,e2,e3⟩:=h3 i hi;exact ⟨a,e1,Nat.lt_of_lt_of_le e2 hx.size,zBH hx e2 e3⟩
section laws
variable {K:Value→World→Prop} {d:Option Tmp}
theorem zAC {T:Nat} {x i:Operand} {p:Option Addr} {a:Addr} {k:IntKind} (hT:zBA P T E 1) (hp:p=some a) (hx:σ x = .slice p len cap) (hi:σ i = .int k (ix:Int)) (h1:ix<len) (hk:K (.pointer (some (a.add ix))) w):Runs P r ⟨d,.indexAddr T x i,ty,pos,af,g⟩ σ w K:=by
 subst hp;refine zq (fun _ e=>by cases e) ?_ hk;simp [execOp,Instr.indexAt,run_underlying hT.1,hx,hi,asIntOf,h1,run_sizeOf' hT.2]
theorem zAZ {x:Operand} {a:Addr} (hT:Plain P T) (hx:σ x = .pointer (some a)) (hv:w.cell? a=some v) (hk:K v w):Runs P r ⟨d,.load T x,ty,pos,af,g⟩ σ w K :=
 zq (fun _ e=>by cases e) (by simp [execOp,Instr.loadAt,Instr.sureAddr,hx,loadVar,hT.isAgg,hv]) hk
end laws
def numsS (L:List (List UInt8)):List Rat:=L.map fun t=>(zW t).1
theorem zDD (h:i<L.length):numsS (L.take (i+1))=numsS (L.take i)++[(zW (L.getD i [])).1]:=by
 unfold numsS;rw [List.take_succ_eq_append_getElem h,List.map_append,List.getD_eq_getElem?_getD,List.getElem?_eq_getElem h];rfl
theorem zHn (L:List (List UInt8)) (i:Nat):(numsS (L.take i)).length=min i L.length:=by simp [numsS]
theorem zCN:zBA prog 22 52 1:=by unfold zBA;exact ⟨by kernel_rfl,by kernel_rfl⟩
theorem NumAt.updT {q:Rat} (h:NumAt b q w) (hu:Upd c w w') (hc:Blk w c T cs) (hT:T≠164) (hne:b≠c):NumAt b q w':=by
 obtain ⟨cs',h1,h2,h3⟩:=h;exact ⟨cs',h1.upd hu hne,h2,h3.upd hu hc hT⟩
theorem AccP.neT {sz q:Nat} (h:AccP sz w v A) (hq:Blk w q T cs) (hT:T≠37):∀ b k,v = .slice (some ⟨b,0,none⟩) A.length k→b≠q:=fun b k e=>by
 obtain ⟨p,c,h1,h2,h3⟩:=h;rw [h1] at e;rcases h3 with ⟨e1,e2,e3⟩ | ⟨b',cs',e1,e2,e3,e4,e5⟩
 · rw [e2] at e;cases e
 · rw [e1] at e;cases e;intro hb;subst hb;exact hT (hq.inj e3).1
theorem R.AccP.neT {sz q:Nat} (h:R.AccP sz w v A) (hq:Blk w q T cs) (hT:T≠50):∀ b k,v = .slice (some ⟨b,0,none⟩) A.length k→b≠q:=fun b k e=>by
 obtain ⟨p,c,h1,h2,h3⟩:=h;rw [h1] at e;rcases h3 with ⟨e1,e2,e3⟩ | ⟨b',cs',e1,e2,e3,e4,e5⟩
 · rw [e2] at e;cases e
 · rw [e1] at e;cases e;intro hb;subst hb;exact hT (hq.inj e3).1
theorem noW2 (hA:Blk w a T cs) (hB:Blk w b T' cs') (h1:T≠164) (h2:T'≠164):NoW [a,b] w:=fun c hc=>by
 rcases List.mem_cons.1 hc with rfl | hc
 · exact ⟨T,cs,hA,h1⟩
 · rw [List.mem_singleton.1 hc];exact ⟨T',cs',hB,h2⟩
theorem noR2 (hA:Blk w a T cs) (hB:Blk w b T' cs') (h1:T≠2) (h2:T'≠2):R.NoR [a,b] w:=fun c hc=>by
 rcases List.mem_cons.1 hc with rfl | hc
 · exact ⟨T,cs,hA,h1⟩
 · rw [List.mem_singleton.1 hc];exact ⟨T',cs',hB,h2⟩
theorem zOg (hv:IsVs w v L) (hts:∀ i,i<L.length→(L.getD i []).length<1000000000) (hll:L.length≤4096):Ret prog 15 #[v] w (fun r w'=>∃ u t,r = .tuple #[u,t]∧AccP w.heap.size w' u (numsS L)∧R.AccP w.heap.size w' t (numsS L)):=by
 obtain ⟨pl,cl,rfl,hcl,hin⟩:=hv;have E0:Ext w w:=Ext.refl w;refine J0 43 func15 rfl (rj fun K=>ag (ag (rm [0] K ?_)));refine rj fun K=>ag (rm [0,4] K ?_);refine rj fun K=>ag (rm [0,4,5] K ?_);refine zA (rj fun K=>ag (rm [0,4,5,6] K ?_));refine zD (ze (X:=Nat) (fun i ρ w'=>∃ vp vq,Keep ρ [(0,.slice pl L.length cl),(4,vp),(5,vq),(6,.int .i64 (i:Nat))]∧i≤L.length∧Ext w w'∧AccP w.heap.size w' vp (numsS (L.take i))∧R.AccP w.heap.size w' vq (numsS (L.take i))) (fun i=>L.length-i) 0 ⟨_,_,(kp rfl),Nat.zero_le _,E0,AccP.nil,R.AccP.nil⟩ ?_);clear E0;rintro i ρ1 w1 ⟨vp,vq,hk,hil,E0,hA,hQ⟩;refine wpe_k _ hk ?_;clear hk ρ1;refine zA (rJ fun K=>mv (K1 (zG zCN rfl (K8 rfl (rm [0,4,5,6,14] K ?_)))));refine K0 rfl ?_ ?_<;>intro hc
 · have hlt:i<L.length:=t_lt hc;clear hc;obtain ⟨a5,hp5,hb5,hv5⟩:=hin i hlt;have hti:=hts i hlt;refine sk (zA (zD (rJ fun K=>mv (K1 (zAC zCN hp5 rfl rfl hlt (K1 (zAZ zEo rfl (zBH E0 hb5 hv5) (K1 (j2 E0 hA.ext hQ.ext hb65 (Parse_ok hti) fun vu w1 E0 hA hQ hr => ?_)))))))));obtain ⟨u1,rfl,hu1⟩:=hr;refine mv (xt rfl (xt rfl ?_));refine K1 (zd zAa fun bc2 w7 hb hE hBc hs => ?_);have hgc:w.heap.size≤bc2:=by rw [hb];exact E0.size
   have hna2:=hA.new (c:=bc2) (Nat.le_of_eq hb.symm);have hnq2:=hQ.new (c:=bc2) (Nat.le_of_eq hb.symm);replace E0:=E0.trans hE;replace hu1:=hu1.ext hE;replace hA:=hA.ext hE;replace hQ:=hQ.ext hE;clear hE hb hs;refine K1 (zK rfl hu1 (Cell3.of hBc rfl) fun _ w9 hU hNA => ?_);replace E0:=E0.upd hU hgc;replace hA:=hA.upd hU hBc hna2;replace hQ:=hQ.updT hU hBc (by decide) hnq2;clear hU hBc hu1;refine ag (rm [0,4,5,6,7] K ?_);refine rJ fun K=>mv (K1 (zAC zCN hp5 rfl rfl hlt (K1 (zAZ zEo rfl (zBH E0 hb5 hv5) (K1 (j3 E0 hA.ext hQ.ext hNA.ext hb66 (R.Parse_ok hti) fun vu2 w2 E0 hA hQ hNA hr => ?_))))));obtain ⟨u2,rfl,hu2⟩:=hr;refine mv (xt rfl (xt rfl ?_));refine K1 (zd R.zero50 fun bc3 w10 hb hE hBc hs => ?_);have hgc3:w.heap.size≤bc3:=by rw [hb];exact E0.size
   have hna3:=hA.new (c:=bc3) (Nat.le_of_eq hb.symm);have hnq3:=hQ.new (c:=bc3) (Nat.le_of_eq hb.symm);have hn23:bc2≠bc3:=by have:=hNA.lt;omega
   replace E0:=E0.trans hE;replace hu2:=hu2.ext hE;replace hA:=hA.ext hE;replace hQ:=hQ.ext hE;replace hNA:=hNA.ext hE;clear hE hb hs;refine K1 (R.runs_rstoreK rfl hu2 (R.Cell3.of hBc rfl) fun _ w11 hU hNR => ?_);replace E0:=E0.upd hU hgc3;replace hA:=hA.updT hU hBc (by decide) hna3;replace hQ:=hQ.updT hU hBc (by decide) hnq3;replace hNA:=hNA.updT hU hBc (by decide) hn23;clear hU hBc hu2;refine ag (rm [0,4,5,6,7,9] K ?_);generalize hAe:numsS (L.take i)=A at hA hQ hna2 hnq2 hna3 hnq3;rcases hA.cases with ⟨ab,ac,rfl,hac,hsb,hAB⟩ | ⟨ap,ac,rfl,hac⟩<;>rcases hQ.cases with ⟨qb,qc,rfl,hqc,hsq,hQB⟩ | ⟨qp,qc,rfl,hqc⟩
   · have hsz11:=E0.size;have hAl:A.length≤4095:=by rw [← hAe,zHn];omega
     obtain ⟨csa,hba⟩:=hAB.blk;obtain ⟨csq,hbq⟩:=hQB.blk;have hpq:ab≠qb:=fun e=>by subst e;exact absurd (hba.inj hbq).1 (by decide)
     have hnw:=noW2 hba hbq (by decide) (by decide);have hnr:=noR2 hba hbq (by decide) (by decide);have hltS:∀ b∈[ab,qb],b<w11.heap.size:=all2 hba.lt hbq.lt;have hn2:bc2 ∉ [ab,qb]:=by have e1:=hna2 ab ac rfl;have e2:=hnq2 qb qc rfl;simp only [List.mem_cons,List.not_mem_nil,or_false,not_or];exact ⟨Ne.symm e1,Ne.symm e2⟩
     have hn3:bc3 ∉ [ab,qb]:=by have e1:=hna3 ab ac rfl;have e2:=hnq3 qb qc rfl;simp only [List.mem_cons,List.not_mem_nil,or_false,not_or];exact ⟨Ne.symm e1,Ne.symm e2⟩
     refine zKo [⟨3,ab,fun w=>AccB ab ac w A,fun w=>AccB ab ac w (A++[(zW (L.getD i [])).1])⟩,⟨7,qb,fun w=>R.AccB qb qc w A,fun w=>R.AccB qb qc w (A++[(zW (L.getD i [])).1])⟩] [([(4,none)],none),([(7,none)],none),([(34,some 0)],none),([(33,some 2),(35,some 0)],none),([(5,none)],none),([(9,none)],none),([(38,some 0)],none),([(37,some 2),(39,some 0)],none),([(36,some 4)],none),([(40,some 1)],none)] mixed (by kernel_rfl) (by kernel_rfl) (by kernel_rfl) (by simp [hpq]) (by kernel_rfl) (all2 (accStOkS hAB hnw) (R.accStOkS hQB hnr)) fun K hK=>dev rfl (fun σ wx hE hk=>zC ⟨Ext.refl _,hk.1⟩) (den (fun v w'=>IsNum w' v (zW (L.getD i [])).1) rfl (fun _ _ _ h1 hx h=>h.extS hx (hnw.ext h1)) (fun σ wx hE hk=>zR hk.1 (hNA.extS hE hn2 hnw) fun v h=>⟨Ext.refl _,h⟩) (den (OneR w11.heap.size (zW (L.getD i [])).1) rfl (fun _ _ _ h1 hx h=>h.extSS hx hltS (hnw.ext h1)) (fun σ wx hE hk=>runs_one hk.1 hE.size) (des _ (fun v _=>v = .slice (some ⟨ab,0,none⟩) (A++[(zW (L.getD i [])).1]).length ac) rfl (fun _ _ _ _ _ h=>h) (fun σ wx hE hpre hk=>runs_appE_in hk.1 hac hpre hk.2.1) (dev rfl (fun σ wx hE hk=>zC ⟨Ext.refl _,hk.1⟩) (den (fun v w'=>R.IsR w' v (zW (L.getD i [])).1) rfl (fun _ _ _ h1 hx h=>h.extS hx (hnr.ext h1)) (fun σ wx hE hk=>R.runs_rAt hk.1 (hNR.extS hE hn3 hnr) fun v h=>⟨Ext.refl _,h⟩) (den (R.OneR w11.heap.size (zW (L.getD i [])).1) rfl (fun _ _ _ h1 hx h=>h.extSS hx hltS (hnr.ext h1)) (fun σ wx hE hk=>R.runs_one hk.1 hE.size) (des _ (fun v _=>v = .slice (some ⟨qb,0,none⟩) (A++[(zW (L.getD i [])).1]).length qc) rfl (fun _ _ _ _ _ h=>h) (fun σ wx hE hpre hk=>R.runs_appE_in hk.1 hqc hpre hk.2.1) (dev rfl (fun σ wx hE hk=>zZ ⟨Ext.refl _,hk.1⟩) (dev rfl (fun σ wx hE hk=>zZ ⟨Ext.refl _,hk.1⟩) (zNA (hK _ fun wq hS hP => ?_)))))))))))
     rintro _ rfl v34 N34 v35 N35 _ rfl _ rfl v38 N38 v39 N39 _ rfl _ rfl _ rfl;refine zn ?_;obtain ⟨hA2,hQ2,-⟩:=hP;replace E0:=E0.updSS hS (all2 hsb hsq);have hA2:=hA2.acc hsb (show (A++[(zW (L.getD i [])).1]).length≤ac by rw [List.length_append];exact hac);have hQ2:=hQ2.acc hsq (show (A++[(zW (L.getD i [])).1]).length≤qc by rw [List.length_append];exact hqc);refine zS (zN (K5 [0,4,5,6] ?_));refine rI fun K=>K8 rfl (ag (rl K (zP ?_)));exact ⟨rfl,i+1,⟨_,_,⟨rfl,rfl,rfl,rfl,rfl,rfl,rfl,congrArg (Value.int .i64) (zx (by omega)),trivial⟩,by omega,E0,by rw [zDD hlt,hAe];exact hA2,by rw [zDD hlt,hAe];exact hQ2⟩,by omega⟩
   · have hsz11:=E0.size;have hAl:A.length≤4095:=by rw [← hAe,zHn];omega
     obtain ⟨csa,hba⟩:=hAB.blk;have hnw:=noW1 hba (by decide);have hnr:=R.noR1 hba (by decide);have hltS:∀ b∈[ab],b<w11.heap.size:=all1 hba.lt;have hn2:bc2 ∉ [ab]:=nin1 (Ne.symm (hna2 ab ac rfl));have hn3:bc3 ∉ [ab]:=nin1 (Ne.symm (hna3 ab ac rfl));have hneq:∀ b k,Value.slice qp A.length qc = .slice (some ⟨b,0,none⟩) A.length k→b ∉ [ab]:=fun b k e=>nin1 (hQ.neT hba (by decide) b k e)
     refine zKo [⟨3,ab,fun w=>AccB ab ac w A,fun w=>AccB ab ac w (A++[(zW (L.getD i [])).1])⟩] [([(4,none)],none),([(7,none)],none),([(34,some 0)],none),([(33,some 2),(35,some 0)],none),([(5,none)],none),([(9,none)],none),([(38,some 0)],none),([(37,some 2),(39,some 0)],none),([(36,some 4)],none),([(40,some 1)],none)] mixed (by kernel_rfl) (by kernel_rfl) (by kernel_rfl) (by simp) (by kernel_rfl) (all1 (accStOkS hAB hnw)) fun K hK=>dev rfl (fun σ wx hE hk=>zC ⟨Ext.refl _,hk.1⟩) (den (fun v w'=>IsNum w' v (zW (L.getD i [])).1) rfl (fun _ _ _ h1 hx h=>h.extS hx (hnw.ext h1)) (fun σ wx hE hk=>zR hk.1 (hNA.extS hE hn2 hnw) fun v h=>⟨Ext.refl _,h⟩) (den (OneR w11.heap.size (zW (L.getD i [])).1) rfl (fun _ _ _ h1 hx h=>h.extSS hx hltS (hnw.ext h1)) (fun σ wx hE hk=>runs_one hk.1 hE.size) (des _ (fun v _=>v = .slice (some ⟨ab,0,none⟩) (A++[(zW (L.getD i [])).1]).length ac) rfl (fun _ _ _ _ _ h=>h) (fun σ wx hE hpre hk=>runs_appE_in hk.1 hac hpre hk.2.1) (dev rfl (fun σ wx hE hk=>zC ⟨Ext.refl _,hk.1⟩) (den (fun v w'=>R.IsR w' v (zW (L.getD i [])).1) rfl (fun _ _ _ h1 hx h=>h.extS hx (hnr.ext h1)) (fun σ wx hE hk=>R.runs_rAt hk.1 (hNR.extS hE hn3 hnr) fun v h=>⟨Ext.refl _,h⟩) (den (R.OneR w11.heap.size (zW (L.getD i [])).1) rfl (fun _ _ _ h1 hx h=>h.extSS hx hltS (hnr.ext h1)) (fun σ wx hE hk=>R.runs_one hk.1 hE.size) (den (fun v w'=>R.AccP w11.heap.size w' v (A++[(zW (L.getD i [])).1])) rfl (fun _ _ _ h1 hx h=>h.fresh hx (hnr.ext h1) hltS) (fun σ wx hE hk=>R.runs_appE_grow hk.1 (hQ.extS hE hnr hneq) hqc hk.2.1 (by omega) hE.size) (dev rfl (fun σ wx hE hk=>zZ ⟨Ext.refl _,hk.1⟩) (den (fun v w'=>R.AccP w11.heap.size w' v (A++[(zW (L.getD i [])).1])) rfl (fun _ _ _ h1 hx h=>h.fresh hx (hnr.ext h1) hltS) (fun σ wx hE hk=>zZ ⟨Ext.refl _,hk.1⟩) (zNA (hK _ fun wq hS hP => ?_)))))))))))
     rintro _ rfl v34 N34 v35 N35 _ rfl _ rfl v38 N38 v39 N39 v40 N40 _ rfl v5 N5;refine zn ?_;obtain ⟨hA2,-⟩:=hP;replace E0:=E0.updSS hS (all1 hsb);have hA2:=hA2.acc hsb (show (A++[(zW (L.getD i [])).1]).length≤ac by rw [List.length_append];exact hac);have hQ2:=N5.sz hsz11;refine zS (zN (K5 [0,4,5,6] ?_));refine rI fun K=>K8 rfl (ag (rl K (zP ?_)));exact ⟨rfl,i+1,⟨_,_,⟨rfl,rfl,rfl,rfl,rfl,rfl,rfl,congrArg (Value.int .i64) (zx (by omega)),trivial⟩,by omega,E0,by rw [zDD hlt,hAe];exact hA2,by rw [zDD hlt,hAe];exact hQ2⟩,by omega⟩
   · have hsz11:=E0.size;have hAl:A.length≤4095:=by rw [← hAe,zHn];omega
     obtain ⟨csq,hbq⟩:=hQB.blk;have hnw:=noW1 hbq (by decide);have hnr:=R.noR1 hbq (by decide);have hltS:∀ b∈[qb],b<w11.heap.size:=all1 hbq.lt;have hn2:bc2 ∉ [qb]:=nin1 (Ne.symm (hnq2 qb qc rfl));have hn3:bc3 ∉ [qb]:=nin1 (Ne.symm (hnq3 qb qc rfl));have hnea:∀ b k,Value.slice ap A.length ac = .slice (some ⟨b,0,none⟩) A.length k→b ∉ [qb]:=fun b k e=>nin1 (hA.neT hbq (by decide) b k e)
     refine zKo [⟨7,qb,fun w=>R.AccB qb qc w A,fun w=>R.AccB qb qc w (A++[(zW (L.getD i [])).1])⟩] [([(4,none)],none),([(7,none)],none),([(34,some 0)],none),([(33,some 2),(35,some 0)],none),([(5,none)],none),([(9,none)],none),([(38,some 0)],none),([(37,some 2),(39,some 0)],none),([(36,some 4)],none),([(40,some 1)],none)] mixed (by kernel_rfl) (by kernel_rfl) (by kernel_rfl) (by simp) (by kernel_rfl) (all1 (R.accStOkS hQB hnr)) fun K hK=>dev rfl (fun σ wx hE hk=>zC ⟨Ext.refl _,hk.1⟩) (den (fun v w'=>IsNum w' v (zW (L.getD i [])).1) rfl (fun _ _ _ h1 hx h=>h.extS hx (hnw.ext h1)) (fun σ wx hE hk=>zR hk.1 (hNA.extS hE hn2 hnw) fun v h=>⟨Ext.refl _,h⟩) (den (OneR w11.heap.size (zW (L.getD i [])).1) rfl (fun _ _ _ h1 hx h=>h.extSS hx hltS (hnw.ext h1)) (fun σ wx hE hk=>runs_one hk.1 hE.size) (den (fun v w'=>AccP w11.heap.size w' v (A++[(zW (L.getD i [])).1])) rfl (fun _ _ _ h1 hx h=>h.fresh hx (hnw.ext h1) hltS) (fun σ wx hE hk=>runs_appE_grow hk.1 (hA.extS hE hnw hnea) hac hk.2.1 (by omega) hE.size) (dev rfl (fun σ wx hE hk=>zC ⟨Ext.refl _,hk.1⟩) (den (fun v w'=>R.IsR w' v (zW (L.getD i [])).1) rfl (fun _ _ _ h1 hx h=>h.extS hx (hnr.ext h1)) (fun σ wx hE hk=>R.runs_rAt hk.1 (hNR.extS hE hn3 hnr) fun v h=>⟨Ext.refl _,h⟩) (den (R.OneR w11.heap.size (zW (L.getD i [])).1) rfl (fun _ _ _ h1 hx h=>h.extSS hx hltS (hnr.ext h1)) (fun σ wx hE hk=>R.runs_one hk.1 hE.size) (des _ (fun v _=>v = .slice (some ⟨qb,0,none⟩) (A++[(zW (L.getD i [])).1]).length qc) rfl (fun _ _ _ _ _ h=>h) (fun σ wx hE hpre hk=>R.runs_appE_in hk.1 hqc hpre hk.2.1) (den (fun v w'=>AccP w11.heap.size w' v (A++[(zW (L.getD i [])).1])) rfl (fun _ _ _ h1 hx h=>h.fresh hx (hnw.ext h1) hltS) (fun σ wx hE hk=>zZ ⟨Ext.refl _,hk.1⟩) (dev rfl (fun σ wx hE hk=>zZ ⟨Ext.refl _,hk.1⟩) (zNA (hK _ fun wq hS hP => ?_)))))))))))
     rintro _ rfl v34 N34 v35 N35 v36 N36 _ rfl v38 N38 v39 N39 _ rfl v4 N4 _ rfl;refine zn ?_;obtain ⟨hQ2,-⟩:=hP;replace E0:=E0.updSS hS (all1 hsq);have hA2:=N4.szle hsz11;have hQ2:=hQ2.acc hsq (show (A++[(zW (L.getD i [])).1]).length≤qc by rw [List.length_append];exact hqc);refine zS (zN (K5 [0,4,5,6] ?_));refine rI fun K=>K8 rfl (ag (rl K (zP ?_)));exact ⟨rfl,i+1,⟨_,_,⟨rfl,rfl,rfl,rfl,rfl,rfl,rfl,congrArg (Value.int .i64) (zx (by omega)),trivial⟩,by omega,E0,by rw [zDD hlt,hAe];exact hA2,by rw [zDD hlt,hAe];exact hQ2⟩,by omega⟩
   · have hsz11:=E0.size;have hAl:A.length≤4095:=by rw [← hAe,zHn];omega
     refine zAY [([(4,none)],none),([(7,none)],none),([(34,some 0)],none),([(33,some 2),(35,some 0)],none),([(5,none)],none),([(9,none)],none),([(38,some 0)],none),([(37,some 2),(39,some 0)],none),([(36,some 4)],none),([(40,some 1)],none)] mixed (by kernel_rfl) (by kernel_rfl) (by kernel_rfl) fun K hK=>dvp (fun σ wx hE hk=>zC ⟨Ext.refl _,hk.1⟩) (dcp (fun v w'=>IsNum w' v (zW (L.getD i [])).1) (fun _ _ _ _ hx h=>h.ext hx.toExt) (fun σ wx hE hk=>zR hk.1 (hNA.ext hE) fun v h=>⟨Ext.refl _,h⟩) (dcp (OneR w11.heap.size (zW (L.getD i [])).1) (fun _ _ _ _ hx h=>h.ext hx.toExt) (fun σ wx hE hk=>runs_one hk.1 hE.size) (dcp (fun v w'=>AccP w.heap.size w' v (A++[(zW (L.getD i [])).1])) (fun _ _ _ _ hx h=>h.ext hx.toExt) (fun σ wx hE hk=>runs_appE_grow hk.1 (hA.ext hE) hac hk.2.1 (by omega) (E0.trans hE).size) (dvp (fun σ wx hE hk=>zC ⟨Ext.refl _,hk.1⟩) (dcp (fun v w'=>R.IsR w' v (zW (L.getD i [])).1) (fun _ _ _ _ hx h=>h.ext hx.toExt) (fun σ wx hE hk=>R.runs_rAt hk.1 (hNR.ext hE) fun v h=>⟨Ext.refl _,h⟩) (dcp (R.OneR w11.heap.size (zW (L.getD i [])).1) (fun _ _ _ _ hx h=>h.ext hx.toExt) (fun σ wx hE hk=>R.runs_one hk.1 hE.size) (dcp (fun v w'=>R.AccP w.heap.size w' v (A++[(zW (L.getD i [])).1])) (fun _ _ _ _ hx h=>h.ext hx.toExt) (fun σ wx hE hk=>R.runs_appE_grow hk.1 (hQ.ext hE) hqc hk.2.1 (by omega) (E0.trans hE).size) (dcp (fun v w'=>AccP w.heap.size w' v (A++[(zW (L.getD i [])).1])) (fun _ _ _ _ hx h=>h.ext hx.toExt) (fun σ wx hE hk=>zZ ⟨Ext.refl _,hk.1⟩) (dcp (fun v w'=>R.AccP w.heap.size w' v (A++[(zW (L.getD i [])).1])) (fun _ _ _ _ hx h=>h.ext hx.toExt) (fun σ wx hE hk=>zZ ⟨Ext.refl _,hk.1⟩) (zBW (hK _ fun wq hE => ?_)))))))))))
     rintro _ rfl v34 N34 v35 N35 v36 N36 _ rfl v38 N38 v39 N39 v40 N40 v4 N4 v5 N5;refine zn ?_;replace E0:=E0.trans hE;clear hE;refine zS (zN (K5 [0,4,5,6] ?_));have hA2:=N4;have hQ2:=N5;refine rI fun K=>K8 rfl (ag (rl K (zP ?_)));exact ⟨rfl,i+1,⟨_,_,⟨rfl,rfl,rfl,rfl,rfl,rfl,rfl,congrArg (Value.int .i64) (zx (by omega)),trivial⟩,by omega,E0,by rw [zDD hlt,hAe];exact hA2,by rw [zDD hlt,hAe];exact hQ2⟩,by omega⟩
 · have hge:=f_lt hc;obtain rfl:i=L.length:=by omega
   clear hc;rw [List.take_length] at hA hQ;refine zV (zv (zi (zL (zN (rJ fun K=>mv (ag (ag (rm [0,2,3,6] K ?_))))))));exact zB (zQ ⟨rfl,_,zo rfl rfl rfl,E0,_,_,rfl,hA,hQ⟩)
def hurS (R:Int×Int×Int):Bool:=decide (R.2.2=0∧R.1=0∧R.2.1=0)
variable {LL:List (List (List UInt8))} {cu n:Nat} {p:Poly} {pu:Option Addr} {α:Type}
def IsVV (w:World) (v:Value) (LL:List (List (List UInt8))):Prop:=∃ p cap,v = .slice p LL.length cap∧LL.length≤cap∧∀ i,i<LL.length→∃ (a:Addr) (pu:Option Addr) (cu:Nat),p=some a∧a.block<w.heap.size∧w.cell? (a.add i)=some (.slice pu (LL.getD i []).length cu)∧IsVs w (.slice pu (LL.getD i []).length cu) (LL.getD i [])
theorem IsVV.one {M:List (List UInt8)} (hB:Blk w b T [.slice pu n cu]) (hn:n=M.length) (h:IsVs w (.slice pu M.length cu) M):IsVV w (.slice (some ⟨b,0,none⟩) 1 1) [M]:=by
 subst hn;refine ⟨_,1,rfl,Nat.le_refl _,fun i hi => ?_⟩;have:i=0:=by simpa using hi
 subst this;exact ⟨⟨b,0,none⟩,pu,cu,rfl,hB.lt,by rw [zAu,hB.cell];rfl,h⟩
theorem zMY {l:List α} {p:α→Bool} {d:α} (hi:i<l.length) (h:p (l.getD i d)=true):l.any p=true:=by
 rw [List.any_eq_true];exact ⟨l[i],List.getElem_mem hi,by simpa [List.getD_eq_getElem?_getD,List.getElem?_eq_getElem hi] using h⟩
theorem zNk {l:List α} {p:α→Bool} {d:α} (h:∀ i,i<l.length→p (l.getD i d)=false):l.any p=false:=by
 rw [List.any_eq_false];intro x hx;obtain ⟨i,hi,rfl⟩:=List.getElem_of_mem hx;have:=h i hi;simp [List.getD_eq_getElem?_getD,List.getElem?_eq_getElem hi] at this;simp [this]
theorem zMm {l:List α} {p:α→Bool} {d:α} (h:∀ i,i<l.length→p (l.getD i d)=true):l.all p=true:=by
 rw [List.all_eq_true];intro x hx;obtain ⟨i,hi,rfl⟩:=List.getElem_of_mem hx;simpa [List.getD_eq_getElem?_getD,List.getElem?_eq_getElem hi] using h i hi
theorem zEt {l:List α} {p:α→Bool} {d:α} (hi:i<l.length) (h:p (l.getD i d)=false):l.all p=false:=by
 rw [List.all_eq_false];exact ⟨l[i],List.getElem_mem hi,by simpa [List.getD_eq_getElem?_getD,List.getElem?_eq_getElem hi] using h⟩
def grM (M:List (List UInt8)):Bool:=decide (60<M.length) || M.any fun t=>decide (60<t.length)
def shM (M:List (List UInt8)):Bool := !(decide (24<M.length)&&decide (M.length<42)) && !grM M&&M.all fun t=>decide (t.length≤40)
def smM (M:List (List UInt8)):Bool:=decide (M.length≤10)&&shM M
theorem zBI:zBA prog 123 22 1:=by unfold zBA;exact ⟨by kernel_rfl,by kernel_rfl⟩
theorem zHp:prog.underlying 123=some (.slice 22):=by kernel_rfl
theorem zCO:Plain prog 22:=by unfold Plain;exact ⟨by kernel_rfl,by kernel_rfl⟩
theorem info22':(prog.info? 22).map (fun i=>(i.zero,i.size))=some (some (.slice none 0 0),1):=by kernel_rfl
theorem zNJ (hv:IsVV w v LL) (hll:LL.length<1000000000):Ret prog 74 #[v] w (fun r _=>r = .bool (LL.any grM)):=by
 obtain ⟨pl,cl,rfl,hcl,hin⟩:=hv;have E0:Ext w w:=Ext.refl w;refine J0 35 func74 rfl (rj fun K=>ag (rm [0] K ?_));refine zA (rj fun K=>ag (rm [0,3] K ?_));refine zD (ze (X:=Nat) (fun i ρ w'=>Keep ρ [(0,.slice pl LL.length cl),(3,.int .i64 (i:Nat))]∧i≤LL.length∧(∀ j,j<i→grM (LL.getD j [])=false)∧Ext w w') (fun i=>LL.length-i) 0 ⟨(kp rfl),Nat.zero_le _,fun j hj=>absurd hj (Nat.not_lt_zero _),E0⟩ ?_);clear E0;rintro i ρ1 w1 ⟨hk,hil,hok,E0⟩;refine wpe_k _ hk ?_;clear hk ρ1;refine zA (rJ fun K=>mv (K1 (zG zBI rfl (K8 rfl (rm [0,3,8] K ?_)))));refine K0 rfl ?_ ?_<;>intro hc
 · have hlt:i<LL.length:=t_lt hc;clear hc;obtain ⟨a5,pu,cu,hp5,hb5,hv5,hM⟩:=hin i hlt;replace hM:=hM.ext E0;generalize hMe:LL.getD i []=M at hv5 hM;refine sk (zA (zD (zA (rJ fun K=>mv (K1 (zAC zBI hp5 rfl rfl hlt (K1 (zAZ zCO rfl (zBH E0 hb5 hv5) (K1 (zG zCN rfl (K8 rfl (rm [0,3,16] K ?_))))))))))));refine K0 rfl ?_ ?_<;>intro hc
   · have hbig:60<M.length:=by have:=of_decide_eq_true hc;omega
     refine rj fun K=>ag (rm [0,2,3] K ?_);refine zB (zU (zT (zU (zAG (zT (zU (zQ ?_)))))));exact ⟨rfl,_,zg rfl rfl,E0,congrArg Value.bool (zMY (p:=grM) (d:=[]) hlt (by rw [hMe];unfold grM;rw [decide_eq_true hbig];rfl)).symm⟩
   · have hbig:M.length≤60:=by have:=of_decide_eq_false hc;omega
     clear hc;refine sk (rj fun K=>ag (rm [0,3,4] K ?_));refine zD ?_;have hM0:=hM;refine ze (X:=Nat) (fun k ρ w'=>Keep ρ [(0,.slice pl LL.length cl),(3,.int .i64 (i:Nat)),(4,.int .i64 (k:Nat))]∧k≤M.length∧(∀ j,j<k→(M.getD j []).length≤60)∧Ext w w'∧IsVs w' (.slice pu M.length cu) M) (fun k=>M.length-k) 0 ⟨(kp rfl),Nat.zero_le _,fun j hj=>absurd hj (Nat.not_lt_zero _),E0,hM⟩ ?_;clear E0 hM hM0;rintro k ρ1 w2 ⟨hk,hkl,hkk,E0,hM⟩;refine wpe_k _ hk ?_;clear hk ρ1;refine zA (rJ fun K=>mv (mv (K1 (zAC zBI hp5 rfl rfl hlt (K1 (zAZ zCO rfl (zBH E0 hb5 hv5) (K1 (zG zCN rfl (K8 rfl (rm [0,3,4,23] K ?_))))))))));refine K0 rfl ?_ ?_<;>intro hc
     · have hklt:k<M.length:=t_lt hc;clear hc;obtain ⟨pm,cm,hme,hcm,hmm⟩:=hM;cases hme;obtain ⟨a6,hp6,hb6,hv6⟩:=hmm k hklt;refine sk (zA (zD (rJ fun K=>mv (K1 (zAC zBI hp5 rfl rfl hlt (K1 (zAZ zCO rfl (zBH E0 hb5 hv5) (mv (K1 (zAC zCN hp6 rfl rfl hklt (K1 (zAZ zEo rfl hv6 (K1 (zw zOp rfl (K8 rfl (rm [0,3,4,34] K ?_))))))))))))))));refine K0 rfl ?_ ?_<;>intro hc
       · have hgt:60<(M.getD k []).length:=Int.ofNat_lt.1 (of_decide_eq_true hc);refine rj fun K=>ag (rm [0,2,3,4] K ?_);refine zB (zT (zU (zAG (zT (zT (zU (zAG (zT (zU (zQ ?_))))))))));exact ⟨rfl,_,zg rfl rfl,E0,congrArg Value.bool (zMY (p:=grM) (d:=[]) hlt (by rw [hMe];unfold grM;rw [zMY (d:=[]) hklt (decide_eq_true hgt),Bool.or_true])).symm⟩
       · have htl:(M.getD k []).length≤60:=Nat.le_of_not_lt fun h=>of_decide_eq_false hc (Int.ofNat_lt.2 h);have hM:IsVs _ (.slice pu M.length cu) M:=⟨pu,cu,rfl,hcm,hmm⟩;refine zm (zS (zN (rI fun K=>K8 rfl (ag (rl K (zP (⟨rfl,k+1,⟨⟨rfl,rfl,rfl,rfl,rfl,congrArg (Value.int .i64) (zx (by omega)),trivial⟩,by omega,fun j hj => ?_,E0,hM⟩,by omega⟩)))))));rcases Nat.lt_succ_iff_lt_or_eq.1 hj with h | rfl
         · exact hkk j h
         · exact htl
     · have hkge:=f_lt hc;obtain rfl:k=M.length:=by omega
       clear hc;have hgood:grM M=false:=by
        unfold grM;rw [decide_eq_false (by omega),Bool.false_or];exact zNk (d:=[]) fun j hj=>decide_eq_false (by have:=hkk j hj;omega)
       refine zV (zv (zi (zL (zS (zN (rI fun K=>K8 rfl (ag (rl K (zP (⟨rfl,i+1,⟨⟨rfl,rfl,rfl,congrArg (Value.int .i64) (zx (by omega)),trivial⟩,by omega,fun j hj => ?_,E0⟩,by omega⟩))))))))));rcases Nat.lt_succ_iff_lt_or_eq.1 hj with h | rfl
       · exact hok j h
       · exact by rw [hMe];exact hgood
 · have hge:=f_lt hc;obtain rfl:i=LL.length:=by omega
   clear hc;refine zV (zv (zi (zL (zN (rj fun K=>ag (rm [0,2,3] K ?_))))));exact zB (en rfl E0 (congrArg Value.bool (zNk (d:=[]) hok).symm))
theorem shortL_ok (hv:IsVV w v LL) (hll:LL.length<1000000000):Ret prog 22 #[v] w (fun r _=>r = .bool (LL.all shM)):=by
 obtain ⟨pl,cl,rfl,hcl,hin⟩:=hv;have E0:Ext w w:=Ext.refl w;refine J0 51 func22 rfl (rj fun K=>ag (rm [0] K ?_));refine zA (rj fun K=>ag (rm [0,3] K ?_));refine zD (ze (X:=Nat) (fun i ρ w'=>Keep ρ [(0,.slice pl LL.length cl),(3,.int .i64 (i:Nat))]∧i≤LL.length∧(∀ j,j<i→shM (LL.getD j [])=true)∧Ext w w') (fun i=>LL.length-i) 0 ⟨(kp rfl),Nat.zero_le _,fun j hj=>absurd hj (Nat.not_lt_zero _),E0⟩ ?_);clear E0;rintro i ρ1 w1 ⟨hk,hil,hok,E0⟩;refine wpe_k _ hk ?_;clear hk ρ1;refine zA (rJ fun K=>mv (K1 (zG zBI rfl (K8 rfl (rm [0,3,8] K ?_)))));refine K0 rfl ?_ ?_<;>intro hc
 · have hlt:i<LL.length:=t_lt hc;clear hc;obtain ⟨a5,pu,cu,hp5,hb5,hv5,hM⟩:=hin i hlt;replace hM:=hM.ext E0;generalize hMe:LL.getD i []=M at hv5 hM;refine sk (zA (zD (zBO (fun ρ w'=>Keep ρ [(0,.slice pl LL.length cl),(3,.int .i64 (i:Nat))]∧Ext w w'∧IsVs w' (.slice pu M.length cu) M∧M.length≤60∧grM M=false∧(decide (24<M.length)&&decide (M.length<42))=false) ?_ ?_)))
   · refine zA ?_;rcases (show (24<M.length∧M.length<42)∨(24<M.length∧¬ M.length<42)∨¬ 24<M.length from by omega) with ⟨h24,h42⟩ | ⟨h24,h42⟩ | h24
     · have hn:(decide (24<M.length)&&decide (M.length<42))=true:=by rw [decide_eq_true h24,decide_eq_true h42];rfl
       refine rI fun K=>mv (K1 (zAC zBI hp5 rfl rfl hlt (K1 (zAZ zCO rfl (zBH E0 hb5 hv5) (K1 (zG zCN rfl (K9 true rfl (decide_eq_true (by omega)) (mv (K7 (K7 (K2 (zAC zBI hp5 rfl rfl hlt (K2 (zAZ zCO rfl (zBH E0 hb5 hv5) (K2 (zG zCN rfl (K2 (zF (v := .bool true) rfl rfl (congrArg (fun z=>some (Value.bool z)) (decide_eq_true (by omega))) (pk rfl ?_)))))))))))))))))));refine mv (K3 (K3 (K3 (K3 (K3 (K3 (pk rfl (rs [0,3,18,19,20,21,22,23,26,27,28,29,30,31,32] K ?_))))))));refine wct rfl (rj fun K=>ag (rm [0,2,3] K ?_));refine zB (zAG (zT (zU (zAG (zT (zU (zQ ?_)))))));exact ⟨rfl,_,zg rfl rfl,E0,congrArg Value.bool (zEt (p:=shM) (d:=[]) hlt (by rw [hMe];unfold shM;rw [hn];rfl)).symm⟩
     · have hn:(decide (24<M.length)&&decide (M.length<42))=false:=by rw [decide_eq_false h42,Bool.and_false]
       refine rI fun K=>mv (K1 (zAC zBI hp5 rfl rfl hlt (K1 (zAZ zCO rfl (zBH E0 hb5 hv5) (K1 (zG zCN rfl (K9 true rfl (decide_eq_true (by omega)) (mv (K7 (K7 (K2 (zAC zBI hp5 rfl rfl hlt (K2 (zAZ zCO rfl (zBH E0 hb5 hv5) (K2 (zG zCN rfl (K2 (zF (v := .bool false) rfl rfl (congrArg (fun z=>some (Value.bool z)) (decide_eq_false (by omega))) (pk rfl ?_)))))))))))))))))));refine mv (K7 (K7 (K2 (zAC zBI hp5 rfl rfl hlt (K2 (zAZ zCO rfl (zBH E0 hb5 hv5) ?_))))));refine K2 (zc (cs:=[.slice pu M.length cu]) zHp info22' (by decide) (by decide) (by kernel_rfl) fun b7 w7 hb7 hE hB7 hs => ?_);replace E0:=E0.trans hE;replace hM:=hM.ext hE;clear hE hb7 hs;refine K2 (j1 E0 hM.ext hb74 (zNJ (IsVV.one hB7 rfl hM) (by simp)) fun vg w1 E0 hM hr => ?_);obtain rfl:=hr.trans (congrArg Value.bool (Bool.or_false _));refine pk rfl (rs [0,3,18,19,20,21,22,23,26,27,28,29,30,31,32] K ?_);refine K0 rfl ?_ ?_<;>intro hc
       · have hgr:grM M=true:=hc;refine rj fun K=>ag (rm [0,2,3] K ?_);refine zB (zAG (zT (zU (zAG (zT (zU (zQ ?_)))))));exact ⟨rfl,_,zg rfl rfl,E0,congrArg Value.bool (zEt (p:=shM) (d:=[]) hlt (by rw [hMe];unfold shM;rw [hgr];simp)).symm⟩
       · have hgr:grM M=false:=hc;clear hc;have hbig:M.length≤60:=by
          rcases Nat.lt_or_ge 60 M.length with h | h
          · unfold grM at hgr;rw [decide_eq_true h] at hgr;cases hgr
          · exact h
         exact zm (zP ⟨rfl,(kp rfl),E0,hM,hbig,hgr,hn⟩)
     · have hn:(decide (24<M.length)&&decide (M.length<42))=false:=by rw [decide_eq_false h24];rfl
       refine rI fun K=>mv (K1 (zAC zBI hp5 rfl rfl hlt (K1 (zAZ zCO rfl (zBH E0 hb5 hv5) (K1 (zG zCN rfl (K9 false rfl (decide_eq_false (by omega)) (mv (K3 (K3 (K3 (K3 (K3 (K3 (pk rfl ?_)))))))))))))));refine mv (K7 (K7 (K2 (zAC zBI hp5 rfl rfl hlt (K2 (zAZ zCO rfl (zBH E0 hb5 hv5) ?_))))));refine K2 (zc (cs:=[.slice pu M.length cu]) zHp info22' (by decide) (by decide) (by kernel_rfl) fun b7 w7 hb7 hE hB7 hs => ?_);replace E0:=E0.trans hE;replace hM:=hM.ext hE;clear hE hb7 hs;refine K2 (j1 E0 hM.ext hb74 (zNJ (IsVV.one hB7 rfl hM) (by simp)) fun vg w1 E0 hM hr => ?_);obtain rfl:=hr.trans (congrArg Value.bool (Bool.or_false _));refine pk rfl (rs [0,3,18,19,20,21,22,23,26,27,28,29,30,31,32] K ?_);refine K0 rfl ?_ ?_<;>intro hc
       · have hgr:grM M=true:=hc;refine rj fun K=>ag (rm [0,2,3] K ?_);refine zB (zAG (zT (zU (zAG (zT (zU (zQ ?_)))))));exact ⟨rfl,_,zg rfl rfl,E0,congrArg Value.bool (zEt (p:=shM) (d:=[]) hlt (by rw [hMe];unfold shM;rw [hgr];simp)).symm⟩
       · have hgr:grM M=false:=hc;clear hc;have hbig:M.length≤60:=by
          rcases Nat.lt_or_ge 60 M.length with h | h
          · unfold grM at hgr;rw [decide_eq_true h] at hgr;cases hgr
          · exact h
         exact zm (zP ⟨rfl,(kp rfl),E0,hM,hbig,hgr,hn⟩)
   · clear E0 hM;rintro ρ1 w3 ⟨hk,E0,hM,hbig,hgr,hn⟩;refine wpe_k _ hk ?_;clear hk ρ1;refine rj fun K=>ag (rm [0,3,4] K ?_);refine zD ?_;have hM0:=hM;refine ze (X:=Nat) (fun k ρ w'=>Keep ρ [(0,.slice pl LL.length cl),(3,.int .i64 (i:Nat)),(4,.int .i64 (k:Nat))]∧k≤M.length∧(∀ j,j<k→(M.getD j []).length≤40)∧Ext w w'∧IsVs w' (.slice pu M.length cu) M) (fun k=>M.length-k) 0 ⟨(kp rfl),Nat.zero_le _,fun j hj=>absurd hj (Nat.not_lt_zero _),E0,hM⟩ ?_;clear E0 hM hM0;rintro k ρ1 w2 ⟨hk,hkl,hkk,E0,hM⟩;refine wpe_k _ hk ?_;clear hk ρ1;refine zA (rJ fun K=>mv (mv (K1 (zAC zBI hp5 rfl rfl hlt (K1 (zAZ zCO rfl (zBH E0 hb5 hv5) (K1 (zG zCN rfl (K8 rfl (rm [0,3,4,39] K ?_))))))))));refine K0 rfl ?_ ?_<;>intro hc
     · have hklt:k<M.length:=t_lt hc;clear hc;obtain ⟨pm,cm,hme,hcm,hmm⟩:=hM;cases hme;obtain ⟨a6,hp6,hb6,hv6⟩:=hmm k hklt;refine sk (zA (zD (rJ fun K=>mv (K1 (zAC zBI hp5 rfl rfl hlt (K1 (zAZ zCO rfl (zBH E0 hb5 hv5) (mv (K1 (zAC zCN hp6 rfl rfl hklt (K1 (zAZ zEo rfl hv6 (K1 (zw zOp rfl (K8 rfl (rm [0,3,4,50] K ?_))))))))))))))));refine K0 rfl ?_ ?_<;>intro hc
       · have hgt:40<(M.getD k []).length:=Int.ofNat_lt.1 (of_decide_eq_true hc);refine rj fun K=>ag (rm [0,2,3,4] K ?_);refine zB (zT (zU (zAG (zT (zT (zU (zAG (zT (zU (zQ ?_))))))))));exact ⟨rfl,_,zg rfl rfl,E0,congrArg Value.bool (zEt (p:=shM) (d:=[]) hlt (by rw [hMe];unfold shM;rw [zEt (d:=[]) hklt (decide_eq_false (by omega)),Bool.and_false])).symm⟩
       · have htl:(M.getD k []).length≤40:=Nat.le_of_not_lt fun h=>of_decide_eq_false hc (Int.ofNat_lt.2 h);have hM:IsVs _ (.slice pu M.length cu) M:=⟨pu,cu,rfl,hcm,hmm⟩;refine zm (zS (zN (rI fun K=>K8 rfl (ag (rl K (zP (⟨rfl,k+1,⟨⟨rfl,rfl,rfl,rfl,rfl,congrArg (Value.int .i64) (zx (by omega)),trivial⟩,by omega,fun j hj => ?_,E0,hM⟩,by omega⟩)))))));rcases Nat.lt_succ_iff_lt_or_eq.1 hj with h | rfl
         · exact hkk j h
         · exact htl
     · have hkge:=f_lt hc;obtain rfl:k=M.length:=by omega
       clear hc;have hgood:shM M=true:=by
        unfold shM;rw [hn,hgr,Bool.not_false,Bool.and_self,Bool.true_and];exact zMm (d:=[]) fun j hj=>decide_eq_true (hkk j hj)
       refine zV (zv (zi (zL (zS (zN (rI fun K=>K8 rfl (ag (rl K (zP (⟨rfl,i+1,⟨⟨rfl,rfl,rfl,congrArg (Value.int .i64) (zx (by omega)),trivial⟩,by omega,fun j hj => ?_,E0⟩,by omega⟩))))))))));rcases Nat.lt_succ_iff_lt_or_eq.1 hj with h | rfl
       · exact hok j h
       · exact by rw [hMe];exact hgood
 · have hge:=f_lt hc;obtain rfl:i=LL.length:=by omega
   clear hc;refine zV (zv (zi (zL (zN (rj fun K=>ag (rm [0,2,3] K ?_))))));exact zB (en rfl E0 (congrArg Value.bool (zMm (d:=[]) hok).symm))
theorem smallL_ok (hv:IsVV w v LL) (hll:LL.length<1000000000):Ret prog 13 #[v] w (fun r _=>r = .bool (LL.all smM)):=by
 obtain ⟨pl,cl,rfl,hcl,hin⟩:=hv;have E0:Ext w w:=Ext.refl w;refine J0 25 func13 rfl (rj fun K=>ag (rm [0] K ?_));refine zA (rj fun K=>ag (rm [0,3] K ?_));refine zD (ze (X:=Nat) (fun i ρ w'=>Keep ρ [(0,.slice pl LL.length cl),(3,.int .i64 (i:Nat))]∧i≤LL.length∧(∀ j,j<i→smM (LL.getD j [])=true)∧Ext w w') (fun i=>LL.length-i) 0 ⟨(kp rfl),Nat.zero_le _,fun j hj=>absurd hj (Nat.not_lt_zero _),E0⟩ ?_);clear E0;rintro i ρ1 w1 ⟨hk,hil,hok,E0⟩;refine wpe_k _ hk ?_;clear hk ρ1;refine zA (rJ fun K=>mv (K1 (zG zBI rfl (K8 rfl (rm [0,3,7] K ?_)))));refine K0 rfl ?_ ?_<;>intro hc
 · have hlt:i<LL.length:=t_lt hc;clear hc;obtain ⟨a5,pu,cu,hp5,hb5,hv5,hM⟩:=hin i hlt;replace hM:=hM.ext E0;generalize hMe:LL.getD i []=M at hv5 hM;refine sk (zA (zD (zA ?_)));by_cases h10:10<M.length
   · skip
     refine rI fun K=>mv (K1 (zAC zBI hp5 rfl rfl hlt (K1 (zAZ zCO rfl (zBH E0 hb5 hv5) (K1 (zG zCN rfl (K9 true rfl (decide_eq_true (by omega)) (mv (K3 (K3 (K3 (K3 (K3 (K3 (K3 ?_)))))))))))))));refine pk rfl (rs [0,3,17,18,19,20,21,22,23,24] K ?_);refine wct rfl (rj fun K=>ag (rm [0,2,3] K ?_));refine zB (zT (zU (zAG (zT (zU (zQ ?_))))));exact ⟨rfl,_,zg rfl rfl,E0,congrArg Value.bool (zEt (p:=smM) (d:=[]) hlt (by rw [hMe];unfold smM;rw [decide_eq_false (by omega)];rfl)).symm⟩
   · skip
     refine rI fun K=>mv (K1 (zAC zBI hp5 rfl rfl hlt (K1 (zAZ zCO rfl (zBH E0 hb5 hv5) (K1 (zG zCN rfl (K9 false rfl (decide_eq_false (by omega)) (mv (K7 (K7 (K2 (zAC zBI hp5 rfl rfl hlt (K2 (zAZ zCO rfl (zBH E0 hb5 hv5) ?_))))))))))))));refine K2 (zc (cs:=[.slice pu M.length cu]) zHp info22' (by decide) (by decide) (by kernel_rfl) fun b7 w7 hb7 hE hB7 hs => ?_);replace E0:=E0.trans hE;replace hM:=hM.ext hE;clear hE hb7 hs;refine K2 (j1 E0 hM.ext hb22 (shortL_ok (IsVV.one hB7 rfl hM) (by simp)) fun vg w1 E0 hM hr => ?_);obtain rfl:=hr.trans (congrArg Value.bool (Bool.and_true _));refine K2 (zr rfl (pk rfl (rs [0,3,17,18,19,20,21,22,23,24] K ?_)));refine K0 rfl ?_ ?_<;>intro hc
     · have hsh:shM M=false:=by cases hs:shM M with | false=>rfl | true=>rw [hs] at hc;cases hc
       refine rj fun K=>ag (rm [0,2,3] K ?_);refine zB (zT (zU (zAG (zT (zU (zQ ?_))))));exact ⟨rfl,_,zg rfl rfl,E0,congrArg Value.bool (zEt (p:=smM) (d:=[]) hlt (by rw [hMe];unfold smM;rw [hsh,Bool.and_false])).symm⟩
     · have hsh:shM M=true:=by cases hs:shM M with | true=>rfl | false=>rw [hs] at hc;cases hc
       clear hc;have hgood:smM M=true:=by unfold smM;rw [decide_eq_true (by omega),hsh];rfl
       refine zm (zS (zN (rI fun K=>K8 rfl (ag (rl K (zP (⟨rfl,i+1,⟨⟨rfl,rfl,rfl,congrArg (Value.int .i64) (zx (by omega)),trivial⟩,by omega,fun j hj => ?_,E0⟩,by omega⟩)))))));rcases Nat.lt_succ_iff_lt_or_eq.1 hj with h | rfl
       · exact hok j h
       · exact by rw [hMe];exact hgood
 · have hge:=f_lt hc;obtain rfl:i=LL.length:=by omega
   clear hc;refine zV (zv (zi (zL (zN (rj fun K=>ag (rm [0,2,3] K ?_))))));exact zB (en rfl E0 (congrArg Value.bool (zMm (d:=[]) hok).symm))
theorem hurwitz_ok {R:Int×Int×Int} (hp:zO w v p) (h:routh p=some R):Ret prog 20 #[v] w (fun r _=>r = .bool (hurS R)):=by
 refine J0 22 func20 rfl (rj fun K=>ag (rm [0] K ?_));refine rJ fun K=>K1 (j0 E0 hb72 (zKP hp h) fun vr w1 E0 hr => ?_);obtain ⟨rfl,-,-⟩:=hr;refine mv (xt rfl (xt rfl (xt rfl (ag (ag (ag (rm [3,4,5] K ?_)))))));refine zA ?_;rcases (show R.2.2≠0∨(R.2.2=0∧R.1≠0)∨(R.2.2=0∧R.1=0∧R.2.1≠0)∨(R.2.2=0∧R.1=0∧R.2.1=0) from by omega) with h1 | ⟨h1,h2⟩ | ⟨h1,h2,h3⟩ | ⟨h1,h2,h3⟩
 · skip
   refine rI fun K=>K9 false rfl (beq_eq_false_iff_ne.2 h1) (mv (K3 (K3 (pk rfl (mv (K3 (K3 (pk rfl (ag (rs [2] K ?_))))))))));exact zB (en rfl E0 (congrArg Value.bool (decide_eq_false (fun h=>h1 h.1)).symm))
 · skip
   refine rI fun K=>K9 true rfl (beq_iff_eq.2 h1) (mv (K7 (K2 (zF (v := .bool false) rfl rfl (congrArg (fun z=>some (Value.bool z)) (beq_eq_false_iff_ne.2 h2)) (pk rfl (mv (K3 (K3 (pk rfl (ag (rs [2] K ?_)))))))))));exact zB (en rfl E0 (congrArg Value.bool (decide_eq_false (fun h=>h2 h.2.1)).symm))
 · skip
   refine rI fun K=>K9 true rfl (beq_iff_eq.2 h1) (mv (K7 (K2 (zF (v := .bool true) rfl rfl (congrArg (fun z=>some (Value.bool z)) (beq_iff_eq.2 h2)) (pk rfl (mv (K7 (K2 (zF (v := .bool false) rfl rfl (congrArg (fun z=>some (Value.bool z)) (beq_eq_false_iff_ne.2 h3)) (pk rfl (ag (rs [2] K ?_))))))))))));exact zB (en rfl E0 (congrArg Value.bool (decide_eq_false (fun h=>h3 h.2.2)).symm))
 · skip
   refine rI fun K=>K9 true rfl (beq_iff_eq.2 h1) (mv (K7 (K2 (zF (v := .bool true) rfl rfl (congrArg (fun z=>some (Value.bool z)) (beq_iff_eq.2 h2)) (pk rfl (mv (K7 (K2 (zF (v := .bool true) rfl rfl (congrArg (fun z=>some (Value.bool z)) (beq_iff_eq.2 h3)) (pk rfl (ag (rs [2] K ?_))))))))))));exact zB (zQ (⟨rfl,_,zg rfl rfl,E0,congrArg Value.bool (decide_eq_true ⟨h1,h2,h3⟩).symm⟩))
end Go.Proofs.YtjiendlfobjanaaGreatDoor
namespace Go.Proofs.YtjiendlfobjanaaGreatDoor.R
open Go Go.RowKit Go.Proofs Tryz
set_option maxRecDepth 10000
set_option maxHeartbeats 2000000
attribute [local irreducible] Runs WPE CallK Ret
def Room (x y:Rat):Prop:=sz x+sz y<900000000000
end Go.Proofs.YtjiendlfobjanaaGreatDoor.R
namespace Go.Proofs.YtjiendlfobjanaaGreatDoor.R
open Go Go.RowKit Go.Proofs Tryz
variable {af:Array Edge} {g:Option (Nat×Bool)} {pos:String} {r:Option Nat} {ty:TypeId} {w:World} {σ:Operand→Value}
section laws
variable {K:Value→World→Prop} {d:Option Tmp}
end laws
end Go.Proofs.YtjiendlfobjanaaGreatDoor.R
namespace Go.Proofs.YtjiendlfobjanaaGreatDoor.R
open Go Go.RowKit Go.Proofs Tryz
set_option maxRecDepth 10000
set_option maxHeartbeats 2000000
attribute [local irreducible] Runs WPE CallK Ret
variable {af:Array Edge} {g:Option (Nat×Bool)} {pos:String} {r:Option Nat} {ty:TypeId} {w:World} {σ:Operand→Value}
section laws
variable {K:Value→World→Prop} {d:Option Tmp}
end laws
def addR (p q:Poly):Poly:=(List.range (max p.length q.length)).map fun i=>p.getD i 0+q.getD i 0
variable {i j:Nat} {p q:Poly}
def rowsR (p q:Poly):Nat→Nat→Rat
 | 0,_=>0
 | i+1,k=>rowsR p q i k+(if i≤k then p.getD i 0*q.getD (k-i) 0 else 0)
def partR (p q:Poly) (i j k:Nat):Rat:=rowsR p q i k+(if i≤k∧k<i+j then p.getD i 0*q.getD (k-i) 0 else 0)
def mulR (p q:Poly):Poly:=(List.range (p.length+q.length)).map fun k=>rowsR p q p.length k
def MulRoom (p q:Poly):Prop:=∀ i j,i<p.length→j<q.length→Room (p.getD i 0) (q.getD j 0)∧Room (partR p q i j (i+j)) (p.getD i 0*q.getD j 0)
theorem part_zero (p q:Poly) (i k:Nat):partR p q i 0 k=rowsR p q i k:=by
 unfold partR;rw [if_neg (by omega),Rat.add_zero]
theorem part_end (p q:Poly) (i k:Nat):partR p q i q.length k=rowsR p q (i+1) k:=by
 unfold partR;rw [rowsR];by_cases h1:i≤k
 · rw [if_pos h1];by_cases h2:k<i+q.length
   · rw [if_pos ⟨h1,h2⟩]
   · rw [if_neg (fun h=>h2 h.2),List.getD_eq_getElem?_getD (l:=q),List.getElem?_eq_none (by omega)];show _=_+p.getD i 0*0;rw [Rat.mul_zero]
 · rw [if_neg (fun h=>h1 h.1),if_neg h1]
theorem part_step {O:Poly} {L:Nat} (hO:O.length=L) (hi:i+j<L) (h:∀ k,k<L→O.getD k 0=partR p q i j k):∀ k,k<L→(O.set (i+j) (O.getD (i+j) 0+p.getD i 0*q.getD j 0)).getD k 0=partR p q i (j+1) k:=fun k hk=>by
 by_cases hkj:k=i+j
 · subst hkj;rw [show (O.set (i+j) (O.getD (i+j) 0+p.getD i 0*q.getD j 0)).getD (i+j) 0=O.getD (i+j) 0+p.getD i 0*q.getD j 0 from by simp [hO,hi],h _ hi];unfold partR;rw [if_neg (by omega),if_pos (by omega),Rat.add_zero,show i+j-i=j by omega]
 · rw [show (O.set (i+j) (O.getD (i+j) 0+p.getD i 0*q.getD j 0)).getD k 0=O.getD k 0 from by simp [List.getElem?_set_ne (Ne.symm hkj)],h k hk];unfold partR;congr 1;by_cases h1:i≤k∧k<i+j
   · rw [if_pos h1,if_pos (by omega)]
   · rw [if_neg h1,if_neg (by omega)]
theorem mul_end {O:Poly} (hO:O.length=p.length+q.length) (h:∀ k,k<p.length+q.length→O.getD k 0=rowsR p q p.length k):O=mulR p q:=by
 refine List.ext_getElem? fun k => ?_;unfold mulR;rw [List.getElem?_map];by_cases hk:k<p.length+q.length
 · have:=h k hk;rw [List.getD_eq_getElem?_getD,List.getElem?_eq_getElem (by omega)] at this;rw [List.getElem?_eq_getElem (by omega),List.getElem?_range hk];exact congrArg some this
 · rw [List.getElem?_eq_none (by omega),List.getElem?_eq_none (by simp;omega)];rfl
section laws
variable {K:Value→World→Prop} {d:Option Tmp}
end laws
def powR (p:Poly):Nat→Poly
 | 0=>[1]
 | k+1=>trim (mulR (powR p k) p)
theorem powR_len (p:Poly):∀ k,(powR p k).length≤k*p.length+1
 | 0=>by simp [powR]
 | k+1=>by
  have h1:=zAw (mulR (powR p k) p);have h2:(mulR (powR p k) p).length=(powR p k).length+p.length:=by simp [mulR]
  have h3:=powR_len p k;rw [powR,Nat.add_mul];omega
section laws
variable {K:Value→World→Prop} {d:Option Tmp}
end laws
end Go.Proofs.YtjiendlfobjanaaGreatDoor.R
namespace Go.Proofs.YtjiendlfobjanaaGreatDoor
open Go Go.RowKit Go.Proofs Tryz Go.Shelf Go.Sort
end Go.Proofs.YtjiendlfobjanaaGreatDoor
namespace Go.Proofs.YtjiendlfobjanaaGreatDoor
variable {B a b:Nat} {p:Poly}
theorem zLP {s:Bool} (hb:b≠0) (ha:a<B) (hb1:b<B):(qOf s a b).num.natAbs<B∧(qOf s a b).den<B:=by
 rw [zIi hb,zKr hb];exact ⟨Nat.lt_of_le_of_lt (Nat.div_le_self _ _) ha,Nat.lt_of_le_of_lt (Nat.div_le_self _ _) hb1⟩
theorem zJM {l:List UInt8} (h:l.length≤40) (hd:l.all isDig=true):natS l<10^40 :=
 Nat.lt_of_lt_of_le (zHJ _ l rfl hd) (Nat.pow_le_pow_right (by decide) h)
theorem zIg {l:List UInt8} (h:l.length≤40):(zW l).1.num.natAbs<10^40∧(zW l).1.den<10^40:=by
 have h0:((0:Rat)).num.natAbs<10^40∧((0:Rat)).den<10^40:=by decide
 have hu:=zFM l;obtain ⟨h1,h2⟩:=zGj 47 (zM l);rw [zAm];split
 · exact h0
 · rename_i c1;split
   · exact h0
   · rename_i c2;split
     · exact h0
     · have hp:zAO (cutAt 47 (zM l)).1=true:=by
        cases hp:zAO (cutAt 47 (zM l)).1 with
        | true=>rfl
        | false=>rw [hp] at c1;simp at c1
       have n1:=zJM (show (cutAt 47 (zM l)).1.length≤40 by omega) (zAs hp);split
       · exact zLP (by decide) n1 (by decide)
       · rename_i c4;have ht:(cutAt 47 (zM l)).2.2=true:=by
          cases ht:(cutAt 47 (zM l)).2.2 with
          | true=>rfl
          | false=>rw [ht] at c4;simp at c4
         have hq:zAO (cutAt 47 (zM l)).2.1=true∧((cutAt 47 (zM l)).2.1==[48])=false:=by
          rw [ht] at c2;cases hq:zAO (cutAt 47 (zM l)).2.1<;>cases hz:((cutAt 47 (zM l)).2.1==[48])<;>simp [hq,hz] at c2 ⊢
         split
         · exact h0
         · exact zLP (zEZ hq.1 hq.2).1 n1 (zJM (by omega) (zAs hq.1))
theorem zPP {B:Nat} (hB:1≤B):∀ p:Poly,(∀ q,q∈p→q.num.natAbs≤B∧q.den≤B)→∃ D:Int,D≠0∧D.natAbs≤B^p.length∧∀ k,∃ z:Int,co p k*D=z∧z.natAbs≤B^p.length
 | [],_=>⟨1,by decide,by simp,fun k=>⟨0,by rw [zAh];simp,by simp⟩⟩
 | x :: p,h=>by
  obtain ⟨D,d1,d2,d3⟩:=zPP hB p fun q hq=>h q (List.mem_cons_of_mem _ hq);obtain ⟨x1,x2⟩:=h x (List.mem_cons_self ..);have hx0:(x.den:Int)≠0:=by have:=x.den_nz;omega
  have hxe:x*(x.den:Rat)=(x.num:Rat):=by
   have e1:(x.num:Rat)/(x.den:Rat)=x:=by rw [← Rat.mkRat_eq_div];exact Rat.mkRat_self x
   have e2:(x.den:Rat)≠0:=by exact_mod_cast x.den_nz
   grind
  refine ⟨x.den*D,Int.mul_ne_zero hx0 d1,?_,fun k => ?_⟩
  · rw [Int.natAbs_mul,List.length_cons,Nat.pow_succ,Nat.mul_comm];exact Nat.mul_le_mul d2 (by simpa using x2)
  · cases k with
    | zero =>
     refine ⟨x.num*D,?_,?_⟩
     · rw [zAd,Rat.intCast_mul,Rat.intCast_mul,← hxe,← Rat.mul_assoc];rfl
     · rw [Int.natAbs_mul,List.length_cons,Nat.pow_succ,Nat.mul_comm];exact Nat.mul_le_mul d2 x1
    | succ k =>
     obtain ⟨z,z1,z2⟩:=d3 k;refine ⟨x.den*z,?_,?_⟩
     · rw [zAQ,Rat.intCast_mul,Rat.intCast_mul,← z1];grind
     · rw [Int.natAbs_mul,List.length_cons,Nat.pow_succ,Nat.mul_comm];exact Nat.mul_le_mul z2 (by simpa using x2)
theorem ch_small (m:Nat) (hl:p.length≤m) (h:∀ q,q∈p→q.num.natAbs<10^40∧q.den<10^40):CH (133*m+1) p:=by
 have h40:10^40≤2^133:=by decide
 obtain ⟨D,d1,d2,d3⟩:=zPP (B:=2^133) (by decide) p fun q hq=>by
  obtain ⟨a,b⟩:=h q hq;omega
 have hp:(2^133)^p.length≤2^(133*m):=by
  rw [← Nat.pow_mul];exact Nat.pow_le_pow_right (by decide) (Nat.mul_le_mul_left _ hl)
 refine ⟨D,d1,?_,fun k => ?_⟩
 · rw [Nat.pow_succ,Nat.mul_comm (2^(133*m))];exact Nat.mul_le_mul_left 2 (Nat.le_trans d2 hp)
 · obtain ⟨z,z1,z2⟩:=d3 k;exact ⟨z,z1,by rw [Nat.pow_succ,Nat.mul_comm (2^(133*m))];exact Nat.mul_le_mul_left 2 (Nat.le_trans z2 hp)⟩
theorem CH.of_co {P Q:Poly} (h:CH a P) (e:∀ k,co Q k=co P k):CH a Q:=let ⟨D,h⟩:=h;⟨D,h.of_co e⟩
theorem CH.part {P Q:Poly} (h:CH a P) (e:∀ k,co Q k=co P k∨co Q k=0):CH a Q:=by
 obtain ⟨D,h1,h2,h3⟩:=h;refine ⟨D,h1,h2,fun k => ?_⟩;rcases e k with e | e
 · rw [e];exact h3 k
 · exact ⟨0,by rw [e,Rat.zero_mul];rfl,by simp⟩
theorem zJS {f:Nat→Rat→Rat} (hf:∀ k,f k 0=0) (k:Nat):co (p.mapIdx f) k=f k (co p k):=by
 unfold co;rw [List.getD_eq_getElem?_getD,List.getD_eq_getElem?_getD,List.getElem?_mapIdx];cases p[k]? with
 | none=>simp [hf]
 | some x=>rfl
variable {n:Nat}
theorem zMl (hp:Trimd p) (hn:p.length=n+1) (hl:n<41):asked p=0:=by
 unfold asked;rw [zu hp,if_neg (by omega),if_neg (fun e=>by rw [e] at hn;cases hn)]
theorem zMx {A:Nat} (hp:Trimd p) (hn:p.length=n+1) (hl:n+1≤10) (hA1:1≤A) (hA:A≤5000) (h:CH A p):∃ R,routh p=some R∧(hurS R=true↔∃ H,HF n (Nof (co p)) H∧PD n H):=by
 have h0:p≠[]:=fun e=>by rw [e] at hn;cases hn
 obtain ⟨r,hr⟩:=routh_ex hp h0 (by omega) hA1 hA h;have hcA:∀ k,co (fracA p) k=co p k∨co (fracA p) k=0:=fun k=>by
  unfold fracA;rw [zJS (fun k=>by split<;>rfl)];split
  · exact .inl rfl
  · exact .inr rfl
 have hcB:∀ k,co (fracB p) k=co p k∨co (fracB p) k=0:=fun k=>by
  unfold fracB;rw [zAr,zJS (fun k=>by split<;>rfl)];split
  · exact .inr rfl
  · exact .inl rfl
 have P:=zHw hp hn;have hg:grow 10=3363:=by decide
 obtain ⟨F,hF,-⟩:=zKK (T:=10) (A:=A) (by rw [hg];omega) (n:=n) (i:=0) P.da P.db P.la (by omega) (by omega) ((h.part hcA).le (by show A≤1*A;omega)) ((h.part hcB).le (by show A≤grow 1*A;have:=Nat.mul_le_mul_right A (zFY 1);omega));obtain ⟨k1,k2⟩:=hurwitz_iff (F:=F) hp h0 (by rw [hn,Nat.add_sub_cancel];exact hF) hr;refine ⟨(r.1,r.2,0),by unfold routh;rw [zMl hp hn (by omega),hr];rfl,?_⟩;rw [← zPC hp hn hF];unfold hurS;rw [decide_eq_true_eq];constructor
 · rintro ⟨-,a,b⟩;refine Classical.byContradiction fun hn => ?_;have:=k2 hn;simp only at a b;omega
 · intro hpos;rw [k1 hpos];exact ⟨rfl,rfl,rfl⟩
theorem zFZ (x y:Rat):∀ n:Nat,(x*y)^n=x^n*y^n
 | 0=>by rw [Rat.pow_zero,Rat.pow_zero,Rat.pow_zero,Rat.mul_one]
 | n+1=>by rw [Rat.pow_succ,zFZ x y n,Rat.pow_succ,Rat.pow_succ];grind
def Qt (a:Nat) (w:Rat):Prop:=∃ D z:Int,D≠0∧w*D=z∧D.natAbs≤2^a∧z.natAbs≤2^a
theorem zMg {x:Int} (h:x.natAbs≤2^a) (k:Nat):(x^k).natAbs≤2^(a*k):=by
 rw [Int.natAbs_pow,Nat.pow_mul];exact Nat.pow_le_pow_left h k
theorem qt_sz {w:Rat} (h:Qt a w):sz w≤2*(a+1):=by
 obtain ⟨D,z,h1,h2,h3,h4⟩:=h;exact sz_of h1 h2 (by rw [Nat.pow_succ];omega) (by rw [Nat.pow_succ];omega)
theorem qt_inv {w:Rat} (hw:w≠0) (h:Qt a w):Qt a (1/w):=by
 obtain ⟨D,z,h1,h2,h3,h4⟩:=h;have hD:=zGw h1;have hz:(z:Rat)≠0:=by rw [← h2];intro e;rcases Rat.mul_eq_zero.1 e with e | e<;>contradiction
 exact ⟨z,D,fun e=>hz (by rw [e];rfl),by rw [← h2];grind,h4,h3⟩
theorem qt_parse {l:List UInt8} (h:l.length≤40):Qt 133 (zW l).1:=by
 obtain ⟨h1,h2⟩:=zIg h;have h40:10^40≤2^133:=by decide
 generalize (zW l).1=x at *;refine ⟨x.den,x.num,by have:=x.den_nz;omega,?_,by simp;omega,by omega⟩;have e1:(x.num:Rat)/(x.den:Rat)=x:=by rw [← Rat.mkRat_eq_div];exact Rat.mkRat_self x
 have e2:(x.den:Rat)≠0:=by exact_mod_cast x.den_nz
 show x*((x.den:Nat):Rat)=_;grind
theorem zPG {w:Rat} (hw:w≠0) (k:Nat):(1/w)^k*w^k=1:=by
 rw [← zFZ,show 1/w*w=1 by grind]
 induction k with
 | zero=>rfl
 | succ k ih=>rw [Rat.pow_succ,ih,Rat.mul_one]
theorem pow_ne {w:Rat} (hw:w≠0) (k:Nat):w^k≠0:=fun e=>by
 have:=zPG hw k;rw [e] at this;grind
theorem ch_scale {x d:Poly} {u:Rat} {A:Nat} (hl:x.length≤10) (hu:Qt a u) (hd:∀ k,co d k=co x k*u^k) (h:CH A x):CH (A+a*9) d:=by
 obtain ⟨D,h1,h2,h3⟩:=h;obtain ⟨E,z0,e1,e2,e3,e4⟩:=hu;have hb:∀ {m n:Nat},2*m≤2^A→n≤2^(a*9)→2*(m*n)≤2^(A+a*9):=fun {m n} hm hn=>by
  rw [Nat.pow_add,← Nat.mul_assoc];exact Nat.mul_le_mul hm hn
 refine ⟨D*E^9,Int.mul_ne_zero h1 (Int.pow_ne_zero e1),by rw [Int.natAbs_mul];exact hb h2 (zMg e3 9),fun k => ?_⟩;by_cases hk:k≤9
 · obtain ⟨z,z1,z2⟩:=h3 k;refine ⟨z*(z0^k*E^(9-k)),?_,?_⟩
   · rw [hd,Rat.intCast_mul,Rat.intCast_mul,Rat.intCast_mul,← z1,Rat.intCast_pow,Rat.intCast_pow,Rat.intCast_pow,← e2,zFZ];have:(E:Rat)^9=(E:Rat)^k*(E:Rat)^(9-k):=by rw [← zFp];congr 1;omega
     rw [this];grind
   · rw [Int.natAbs_mul];refine hb z2 ?_;rw [Int.natAbs_mul,show a*9=a*k+a*(9-k) by rw [← Nat.mul_add];congr 1;omega,Nat.pow_add];exact Nat.mul_le_mul (zMg e4 k) (zMg e3 (9-k))
 · exact ⟨0,by rw [hd,co_ge (by omega),Rat.zero_mul,Rat.zero_mul];rfl,by simp⟩
end Go.Proofs.YtjiendlfobjanaaGreatDoor
namespace Go.Proofs.YtjiendlfobjanaaGreatDoor
open Go Go.RowKit Go.Proofs Tryz
set_option maxRecDepth 10000
set_option maxHeartbeats 2000000
attribute [local irreducible] Runs WPE CallK Ret
variable {cv v:Value} {f:FuncId} {i:Nat} {p:Poly} {w:World} {x:Rat}
theorem zKD (x:Rat):rsign x≤0↔¬ 0<x:=by
 by_cases h0:x=0
 · subst h0;decide
 · rcases zBm h0 with ⟨h1,h2⟩ | ⟨h1,h2⟩
   · rw [h2];exact ⟨fun e=>by omega,fun e=>absurd h1 e⟩
   · rw [h2];exact ⟨fun _=>by grind,fun _=>by decide⟩
theorem above1_ok (hx:IsNum w v x):Ret prog 190 #[v] w (fun r _=>r = .bool (decide (¬ 0<x))):=by
 have hx0:=hx;obtain ⟨xn,xd,rfl,hxn,hxd⟩:=hx0;refine J0 6 func190 rfl (rj fun K => ?_);refine K1 (zAA fun b1 w1 hb hE hB1 hs => ?_);have hgb1:w.heap.size≤b1:=by rw [hb];exact E0.size
 replace E0:=E0.trans hE;replace hx:=hx.ext hE;clear hE hs hb;refine ag (rm [1] K ?_);refine zA ?_;have hNX:NumAt b1 x _:=⟨_,hB1,rfl,hx⟩;refine K6 fun K=>K1 (zR rfl hNX fun v3 N3=>K1 (j0 E0 hb19 (zAg N3) fun vi w2 E0 hr => ?_));subst hr;refine K8 rfl (ag (rs [2] K ?_));exact zB (en rfl E0 (congrArg Value.bool (decide_eq_decide.2 (by rw [zKD]))))
theorem zGB {l:Poly} (h:i<l.length):l.drop i=l.getD i 0 :: l.drop (i+1):=by
 rw [List.drop_eq_getElem_cons h];simp [h]
theorem IndexN_ok {c:Poly} {pr:Rat→Bool} (hc:zO w cv c) (hf:zBG prog f) (hsig:∀ i,i<c.length→∀ (w':World) (v:Value),Ext w w'→IsNum w' v (c.getD i 0)→Ret prog f #[v] w' (fun u _=>u = .bool (pr (c.getD i 0)))):Ret prog 265 #[cv,.func (.func f) #[] #[]] w (fun u _=>u = .int .i64 (idxL pr c 0)):=by
 obtain ⟨cp,cc,rfl,hcc,hC,hcl⟩:=hc;have E0:Ext w w:=Ext.refl w;refine J0 19 func265 rfl (rj fun K=>ag (rm [0,1] K ?_));refine zA (rJ fun K=>K1 (zG zAB rfl (mv (rm [0,1,7,8] K ?_))));refine zD (ze (X:=Nat) (fun i ρ w'=>Keep ρ [(0,.slice cp c.length cc),(1,.func (.func f) #[] #[]),(7,.int .i64 (c.length:Nat)),(8,.int .i64 (i:Nat))]∧i≤c.length∧Ext w w'∧idxL pr (c.drop i) i=idxL pr c 0) (fun i=>c.length-i) 0 ⟨(kp rfl),Nat.zero_le _,E0,rfl⟩ ?_);clear E0;rintro i ρ1 w1 ⟨hk,hil,E0,hI⟩;refine wpe_k _ hk ?_;clear hk ρ1;refine rj fun K=>K8 rfl (rm [0,1,7,8,9] K ?_);refine zA ?_;refine K0 rfl ?_ ?_<;>intro hc
 · have hlt:i<c.length:=t_lt hc;clear hc;have hC1:=hC.ext E0;rw [zGB (by omega),idxL] at hI;refine sk (zA (zD (rJ fun K=>ag (rm [0,1,5,7,8] K ?_))));refine rJ fun K=>mv (mv (K1 (zAL (l:=c) hC1 rfl rfl hlt (K1 (zAS hC1 hlt rfl fun v15 N15=>K1 (zCR rfl hf (CallK.of_ret (hsig i hlt _ v15 E0 N15) fun v19 w2 hE hr => ?_)))))));subst hr;replace E0:=E0.trans hE;clear hE N15 hC1;refine rm [0,1,5,7,8,16] K ?_;refine K0 rfl ?_ ?_<;>intro hc
   · have hcc2:pr (c.getD i 0)=true:=hc;clear hc;rw [if_pos hcc2] at hI;refine rJ fun K=>ag (rm [0,1,4,7,8] K ?_);refine zB (zT (zU (zAG (zT (zU (zQ ?_))))));exact ⟨rfl,_,zg rfl rfl,E0,by rw [← hI];rfl⟩
   · have hcc2:pr (c.getD i 0)=false:=hc;clear hc;rw [if_neg (by rw [hcc2];decide)] at hI;exact zm (zS (zN (K6 fun K=>K8 rfl (mv (rl K (zP (⟨rfl,i+1,⟨⟨rfl,rfl,rfl,rfl,rfl,rfl,rfl,congrArg (Value.int .i64) (zx (by omega)),trivial⟩,by omega,E0,hI⟩,by omega⟩)))))))
 · have hge:=f_lt hc;obtain rfl:i=c.length:=by omega
   clear hc;rw [List.drop_eq_nil_of_le (by omega),idxL] at hI;refine zV (zv (zi (zL (zN (rj fun K=>ag (rm [0,1,4,7,8] K ?_))))));refine zB (zQ ?_);exact ⟨rfl,_,zg rfl rfl,E0,by rw [← hI];rfl⟩
theorem ContainsN_ok {c:Poly} {pr:Rat→Bool} (hc:zO w cv c) (hf:zBG prog f) (hsig:∀ i,i<c.length→∀ (w':World) (v:Value),Ext w w'→IsNum w' v (c.getD i 0)→Ret prog f #[v] w' (fun u _=>u = .bool (pr (c.getD i 0)))):Ret prog 189 #[cv,.func (.func f) #[] #[]] w (fun u _=>u = .bool (c.any pr)):=by
 refine J0 9 func189 rfl (rj fun K=>ag (rm [0,1] K ?_));refine rJ fun K=>mv (K1 (j0 E0 hb265 (IndexN_ok hc hf hsig) fun vi w2 E0 hr => ?_));subst hr;refine K8 rfl (ag (rm [4] K ?_));refine zB (zQ ?_);exact ⟨rfl,_,zg rfl rfl,E0,congrArg Value.bool (by
  rcases @zHT _ pr c 0 with ⟨e1,e2⟩ | ⟨e1,e2,e3⟩
  · rw [e2];exact decide_eq_false (by omega)
  · rw [e3];exact decide_eq_true (by omega))⟩
theorem above_ok (hp:zO w v p):Ret prog 99 #[v] w (fun u _=>u = .bool (!(p.any fun x=>decide (¬ 0<x)))):=by
 refine J0 6 func99 rfl (rj fun K=>ag (rm [0] K ?_));refine rJ fun K=>K1 (j0 E0 hb189 (ContainsN_ok (pr:=fun x=>decide (¬ 0<x)) hp hb190 fun i hi w2 v hE hv=>above1_ok hv) fun vi w2 E0 hr => ?_);subst hr;refine K1 (zr rfl (ag (rm [2] K ?_)));exact zB (en rfl E0 rfl)

variable {L:List (List UInt8)} {T:TypeId} {b cu:Nat} {pu pv:Option Addr} {w':World}
theorem info52':(prog.info? 52).map (fun i=>(i.zero,i.size))=some (some (S []),1):=by kernel_rfl
theorem IsVs.one {t:List UInt8} (hB:Blk w b T [S t]):IsVs w (.slice (some ⟨b,0,none⟩) 1 1) [t]:=by
 refine ⟨_,1,rfl,Nat.le_refl _,fun i hi => ?_⟩;have:i=0:=by simpa using hi
 subst this;exact ⟨⟨b,0,none⟩,rfl,hB.lt,by rw [zAu,hB.cell];rfl⟩
theorem IsVV.two {cv:Nat} {M K:List (List UInt8)} (hB:Blk w b T [.slice pu M.length cu,.slice pv K.length cv]) (h:IsVs w (.slice pu M.length cu) M) (h':IsVs w (.slice pv K.length cv) K):IsVV w (.slice (some ⟨b,0,none⟩) 2 2) [M,K]:=by
 refine ⟨_,2,rfl,Nat.le_refl _,fun i hi => ?_⟩
 match i,hi with
 | 0,_=>exact ⟨⟨b,0,none⟩,pu,cu,rfl,hB.lt,by rw [zAu,hB.cell];rfl,h⟩
 | 1,_=>exact ⟨⟨b,0,none⟩,pv,cv,rfl,hB.lt,by rw [zAu,hB.cell];rfl,h'⟩
theorem zPm (h:smM L=true):L.length≤10∧∀ i,i<L.length→(L.getD i []).length≤40:=by
 unfold smM shM at h;simp only [Bool.and_eq_true,decide_eq_true_eq,List.all_eq_true] at h;exact ⟨h.1,fun i hi=>by rw [List.getD_eq_getElem?_getD,List.getElem?_eq_getElem hi];exact h.2.2 _ (List.getElem_mem hi)⟩
theorem Ext.self (_:Ext w w'):Ext w' w':=Ext.refl w'
theorem Ext.szE (_:Ext w w'):∃ s,s=w'.heap.size:=⟨_,rfl⟩
theorem room_co {x:Poly} {U:Nat} (h:∀ k,sz (co x k)≤U) (hU:U<500000000000) (i:Nat):rroom (x.getD i 0) (x.getD i 0)=true:=by
 have:=h i;unfold co at this;exact decide_eq_true (by omega)
end Go.Proofs.YtjiendlfobjanaaGreatDoor
