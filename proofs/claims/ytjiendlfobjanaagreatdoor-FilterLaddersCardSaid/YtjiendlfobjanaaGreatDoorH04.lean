/-
  A part of the proof: W32p, W32, W33, W34, Str, ParseS, W35, W36, W37, W38, Bands, W39, W40, W41, W42, W43, W44, Dec, StrL, W59, W45p, W45, Ref30, W46, W47, W48.
-/
import Derived.Test.YtjiendlfobjanaaGreatDoorH03
import Derived.Laws.Strings
import Derived.Lib.IndexMore
import Derived.Lib.ItoaNum
namespace Go.Proofs.YtjiendlfobjanaaGreatDoor
open Go Go.RowKit Go.Proofs Tryz
set_option maxRecDepth 10000
set_option maxHeartbeats 2000000
variable {T:TypeId} {b c n:Nat} {cs:List Value} {l:List Rat} {low:Poly} {v:Value} {w w' w1 w2:World} {x:Rat}
def BandC (w:World) (c:List Value) (B:Band):Prop :=
 IsNum w (.agg ((c.drop 0).take 3).toArray) B.lo/\IsNum w (.agg ((c.drop 3).take 3).toArray) B.hi/\IsNum w (.agg ((c.drop 6).take 3).toArray) B.least/\IsNum w (.agg ((c.drop 9).take 3).toArray) B.most
def zNn (w:World) (v:Value) (B:Band):Prop:=∃ c:List Value,v = .agg c.toArray/\c.length=12/\BandC w c B
theorem BandC.ext {c:List Value} {B:Band} (h:BandC w c B) (s:Ext w w'):BandC w' c B:=⟨h.1.ext s,h.2.1.ext s,h.2.2.1.ext s,h.2.2.2.ext s⟩
theorem BandC.updT {c:List Value} {B:Band} (h:BandC w c B) (s:Upd b w w') (z:Blk w b T cs) (A:T≠164):BandC w' c B :=
 ⟨h.1.updT s z A,h.2.1.updT s z A,h.2.2.1.updT s z A,h.2.2.2.updT s z A⟩
theorem zIl:zAG prog 144 0 0:=by unfold zAG;kernel_rfl
theorem fo144_1:zAG prog 144 1 6:=by unfold zAG;kernel_rfl
theorem fo144_2:zAG prog 144 2 9:=by unfold zAG;kernel_rfl
theorem zPW:Aggr prog 144 12:=pU
theorem aggr47:Aggr prog 47 6:=pU
theorem BandC.span {c:List Value} {B:Band} (h:BandC w c B) (D:c.length=12):zJz w (.agg ((c.drop 0).take 6).toArray) B.lo B.hi:=by
 obtain ⟨F,G,_⟩:=h
 match c,D with
 | [M,Q,c2,U,V,Z,c6,c7,c8,c9,J,L],_ =>
  obtain ⟨n1,d1,H,s,z⟩:=F;obtain ⟨n2,d2,I,A,C⟩:=G;cases H;cases I;exact ⟨_,_,_,_,rfl,⟨_,_,rfl,s,z⟩,⟨_,_,rfl,A,C⟩⟩
theorem BandC.ok {c:List Value} {B:Band} (h:BandC w c B) (z:c.length=12):c.all zDT=true:=by
 obtain ⟨A,C,D,F⟩:=h
 match c,z with
 | [U,V,c2,Z,c4,c5,c6,c7,c8,c9,J,L],_ =>
  have s:∀ {a b c:Value} {q:Rat},IsNum w (.agg #[a,b,c]) q->zDT a=true/\zDT b=true/\zDT c=true:=fun {a b c q} h=>by
   obtain ⟨n,d,e,G,H⟩:=h;obtain ⟨p1,M,k1,rfl,-⟩:=G;obtain ⟨p2,Q,k2,rfl,-⟩:=H;cases e;exact ⟨rfl,rfl,rfl⟩
  have I:=s A;have g2:=s C;have g3:=s D;have g4:=s F;simp [I,g2,g3,g4]
theorem IsPoly.updN (h:IsPoly w v l) (z:Ext w w1) (A:Upd c w1 w2) (C:Blk w1 c 37 cs) (D:w.heap.size<=c):IsPoly w2 v l:=by
 obtain ⟨p,k,F,G,s,H⟩:=h;exact ⟨p,k,F,G,(s.ext z).upd A C (s.ne D),H⟩
theorem zLg {c:List Value} (h:c.length=n):(c.drop 0).take n=c:=by rw [eT,dF oM]
theorem witN_some {up:Poly} {s w:Rat} {f:Nat} (h:witN up low s w (f+1) n=some x):∃ r,witJ up low s w n (n+1) 0=some r/\(match r with | some y=>some y | none=>witN up low s w f (2*n))=some x:=by
 unfold witN at h;exact bind_some h
end Go.Proofs.YtjiendlfobjanaaGreatDoor
namespace Go.Proofs.YtjiendlfobjanaaGreatDoor
open Go Go.RowKit Go.Proofs Tryz
set_option maxRecDepth 10000
set_option maxHeartbeats 2000000
attribute [local irreducible] Runs WPE CallK Ret
variable {den low num:Poly} {u1 u2 v:Value} {w:World}
theorem zRS {B:Band} {up:Poly} (hb:zNn w v B) (G:IsPoly w u1 num) (A:IsPoly w u2 den) (h:rules num den B.least B.most=some (up,low)):Ret prog 186 #[v,u1,u2] w (fun r w'=>∃ a c,r = .agg #[a,c]/\IsPoly w' a up/\IsPoly w' c low):=by
 obtain ⟨c,rfl,am,C⟩:=hb;refine J0 26 func186 rfl (rj ?_);refine K1 (zn (Z0 E0 fun b1 w1 E0 hgb1 s => ?_));refine K1 (zR zQF (Z1a E0 s.ext s.lt fun b2 w2 E0 s hgb2 ne_b1_b2 z=>rM 78 ?_));refine zA ?_;unfold rules at h;obtain ⟨n,h1,h⟩:=bind_some h;obtain ⟨d,h2,h⟩:=bind_some h;obtain ⟨x,h3,h⟩:=bind_some h;obtain ⟨an,h4,h⟩:=bind_some h;obtain ⟨y,h5,h⟩:=bind_some h;obtain ⟨Z,h6,h⟩:=bind_some h;cases h;replace s:Blk _ b1 144 c:=s;replace C:=C.ext E0;replace G:=G.ext E0;replace A:=A.ext E0;refine rI (K1 (j4 E0 s.ext z.ext C.ext A.ext yB (zPI G h1) fun v10 w2 E0 s z C A N10 => ?_));have N10:=N10.poly;refine mv (K1 (j4 E0 s.ext z.ext C.ext N10.ext yB (zPI A h2) fun v12 w2 E0 s z C N10 N12 => ?_));have N12:=N12.poly;have hM:=C.2.2.2;have hL:=C.2.2.1;refine ag (ag (rS 456 ?_))
 refine zA (zGd [] [(12,fun σ=>(fun l => .agg l.toArray) ([18,24].map σ))] none 13 [[16],[6],[1],[5,1],[14],[3,1],[14],[16],[6],[1],[5,1],[9,1],[13,1]] mixed kR (zEr.cons [18,24] (fun l => .agg l.toArray) kR (zEr.nil)) fun K hK=>dM aL (du (fun hE hk=>zB fo144_2 hk.1 eR) (dC (fun v w'=>IsNum w' v B.most) (fun hE hk=>zBQ hk.1 (s.ext hE) oM (hM.ext hE) fun _=>eX) (dC (fun v w'=>IsPoly w' v x) (fun hE hk=>zJ yB (CallK.of_ret (zDL (IsPoly.of_eq hk.1 (N12.ext hE)) hk.2.1 h3) fun v w2 D F=>⟨D,F.poly⟩) rfl) (dM aL (dC (fun v w'=>IsPoly w' v up) (fun hE hk=>zJ yB (CallK.of_ret (zHP hk.1 (IsPoly.of_eq hk.2.1 (N10.ext hE)) h4) fun v w2 D F=>⟨D,F.poly⟩) rfl) (dM aL (dM aL (du (fun hE hk=>zB fo144_1 hk.1 eR) (dC (fun v w'=>IsNum w' v B.least) (fun hE hk=>zBQ hk.1 (s.ext hE) oM (hL.ext hE) fun _=>eX) (dC (fun v w'=>IsPoly w' v y) (fun hE hk=>zJ yB (CallK.of_ret (zDL (IsPoly.of_eq hk.1 (N12.ext hE)) hk.2.1 h5) fun v w2 D F=>⟨D,F.poly⟩) rfl) (dC (fun v w'=>IsPoly w' v low) (fun hE hk=>zJ yB (CallK.of_ret (zHP (IsPoly.of_eq hk.1 (N10.ext hE)) hk.2.1 h6) fun v w2 D F=>⟨D,F.poly⟩) rfl) ?_))))))))))))
 refine dxn (fun _ _=>True) (fun _ _ _ _ _ h=>h) (fun σ wx hE hk=>(by obtain ⟨H,I,J,-⟩:=hk.1;obtain ⟨L,M,Q,-⟩:=hk.2.1;have J:σ 18=_:=J;have Q:σ 24=_:=Q;refine zV (cs := #[.slice H up.length I,.slice L low.length M]) ?_ ⟨Ext.refl _,trivial,Xtra.one dE (by show _=Value.agg #[σ 18,σ 24];rw [J,Q])⟩;show prog.built 245 [(0,σ 18),(1,σ 24)]=_;rw [J,Q];kernel_rfl)) ?_;refine zAJ (hK _ fun wq hE => ?_);rintro _ rfl _ rfl v15 N15 v16 N16 _ rfl v18 N18 _ rfl _ rfl _ rfl v22 N22 v23 N23 v24 N24 v25 N25;refine zY ?_;intro hsep;obtain ⟨E0,s,z⟩:=V2 hE E0 s.ext z.ext;have e25:v25 = .agg #[v18,v24]:=hsep.2 12 _ (dI.2 rfl) 25 rfl;subst e25;obtain ⟨H,I,rfl,r1⟩:=N18;obtain ⟨L,M,rfl,r2⟩:=N24;have U:IsPoly _ (.slice H up.length I) up:=⟨H,I,rfl,r1⟩;have V:IsPoly _ (.slice L low.length M) low:=⟨L,M,rfl,r2⟩;refine K1 (zc zQB rfl z rfl (cw rfl) dE rfl fun w9 hU hN => ?_);replace E0:=E0.upd hU hgb2;replace U:=U.updT hU z dE dE;replace V:=V.updT hU z dE dE;clear z;have z:=hN;refine zAh (zK (K5 [6] ?_));exact zE (zM ⟨rfl,_,zq rfl rfl rfl aggr245 z rfl,E0,_,_,rfl,U,V⟩)
variable {p:Poly} {x y:Rat}
theorem zBO {x:Rat}:rsign x<0↔x<0:=by unfold rsign;rw [Int.sign_neg_iff,zCE]
theorem zFX {x:Rat}:rsign x=0↔x=0:=by unfold rsign;rw [fU];exact fG
theorem nsign_pos:0<rsign x↔0<x:=by
 have s := @zBO x;have h2 := @zFX x;constructor
 . intro h;have a1:¬ x<0:=fun e=>by have:=s.2 e;omega
   have a2:x≠0:=fun e=>by have:=h2.2 e;omega
   grind
 . intro h;have a1:¬ rsign x<0:=fun e=>by have:=s.1 e;grind
   have a2:rsign x≠0:=fun e=>by have:=h2.1 e;grind
   omega
theorem zRA (h:x≠y):rcmpI x y≠0:=by
 unfold rcmpI;split
 . decide
 . first
   | (rw [ct h];decide)
   | decide
theorem nonneg_cases {A C:Rat} {s:Bool} (h:zJP p A C=some s):(∃ a,peval p A=some a/\a<0/\s=false)\/(∃ a b,peval p A=some a/\peval p C=some b/\¬ a<0/\b<0/\s=false) \/
 (∃ a b,peval p A=some a/\peval p C=some b/\¬ a<0/\¬ b<0/\asked p≠0/\s=true) \/
 (∃ a b l z n,peval p A=some a/\peval p C=some b/\¬ a<0/\¬ b<0/\asked p=0/\parts p=some l/\rcmp A C=some z/\zID A C l 0=some n/\(if n=false then s=false else if z<0 then zOU p A (p.length+1) C=some s else s=true)):=by
 unfold zJP at h;obtain ⟨a,F,h⟩:=bind_some h;split at h
 . next D=>cases h;exact .inl ⟨a,F,D,rfl⟩
 . next D =>
   obtain ⟨b,H,h⟩:=bind_some h;split at h
   . next G=>cases h;exact .inr (.inl ⟨a,b,F,H,D,G,rfl⟩)
   . next G =>
     split at h
     . next I=>cases h;exact .inr (.inr (.inl ⟨a,b,F,H,D,G,I,rfl⟩))
     . next I =>
       obtain ⟨l,L,h⟩:=bind_some h;obtain ⟨z,M,h⟩:=bind_some h;obtain ⟨n,Q,h⟩:=bind_some h;refine .inr (.inr (.inr ⟨a,b,l,z,n,F,H,D,G,by simpa using I,L,M,Q,?_⟩));split at h
       . next e=>rw [cD e];cases h;rfl
       . next e =>
         rw [ct e];split at h
         . next J=>rw [cD J];exact h
         . next J=>rw [ct J];cases h;rfl
theorem zOj {Q M:Rat} {s:Bool} (hp:IsPoly w v p) (hx:IsNum w u1 Q) (hy:IsNum w u2 M) (h:zJP p Q M=some s):Ret prog 80 #[v,u1,u2] w (fun r _=>r = .bool s):=by
 obtain ⟨n1,d1,rfl,I,ap⟩:=hx;obtain ⟨n2,d2,rfl,J,aq⟩:=hy;refine J0 94 func80 rfl (rj ?_);refine K1 (zn (Z0 E0 fun b1 w1 E0 hgb1 hB1 => ?_));refine K1 (zn (Z1a E0 hB1.ext hB1.lt fun b2 w2 E0 hB1 hgb2 ne_b1_b2 hB2=>ag (rM 49 ?_)));refine zA (zA ?_);rcases nonneg_cases h with ⟨a,ha,ad,rfl⟩ | ⟨a,b,ha,hb,ad,am,rfl⟩ | ⟨a,b,ha,hb,ad,am,h0,rfl⟩ | ⟨a,b,l,z,n,ha,hb,ad,am,h0,hl,hz,H,U⟩
 . skip
   have C:NumAt b1 Q _:=⟨_,hB1,rfl,IsNum.ext (show IsNum w (.agg #[.bool (decide (Q<0)),n1,d1]) Q from ⟨n1,d1,rfl,I,ap⟩) E0⟩;have A:NumAt b2 M _:=⟨_,hB2,rfl,IsNum.ext (show IsNum w (.agg #[.bool (decide (M<0)),n2,d2]) M from ⟨n2,d2,rfl,J,aq⟩) E0⟩;refine rI (K1 (zW rfl C fun v16 N16=>K1 (j2 E0 C.ext A.ext yB (zCA (hp.ext E0) N16 ha) fun v17 w2 E0 C A N17=>K1 (j2 E0 C.ext A.ext yB (Sign_ok N17) fun vi w2 E0 C A D => ?_))));subst D;refine K1 (zC (v := .bool true) rfl rfl (sB (cZ (zBO.2 ad))) (mv (K3 (K3 (K3 (K3 (K3 (pc0 rfl (rS 67108913 ?_)))))))));refine wct rfl (rj (ag (rM 112 ?_)));exact zE (zU (en rfl E0 rfl))
 . skip
   have C:NumAt b1 Q _:=⟨_,hB1,rfl,IsNum.ext (show IsNum w (.agg #[.bool (decide (Q<0)),n1,d1]) Q from ⟨n1,d1,rfl,I,ap⟩) E0⟩;have A:NumAt b2 M _:=⟨_,hB2,rfl,IsNum.ext (show IsNum w (.agg #[.bool (decide (M<0)),n2,d2]) M from ⟨n2,d2,rfl,J,aq⟩) E0⟩;refine rI (K1 (zW rfl C fun v16 N16=>K1 (j2 E0 C.ext A.ext yB (zCA (hp.ext E0) N16 ha) fun v17 w2 E0 C A N17=>K1 (j2 E0 C.ext A.ext yB (Sign_ok N17) fun vi w2 E0 C A D => ?_))));subst D;refine K1 (zC (v := .bool false) rfl rfl (sB (cU (fun e=>ad (zBO.1 e)))) (mv (K7 (K2 (zW rfl A fun v22 N22=>K2 (j2 E0 C.ext A.ext yB (zCA (hp.ext E0) N22 hb) fun v23 w2 E0 C A N23=>K2 (j2 E0 C.ext A.ext yB (Sign_ok N23) fun vi w2 E0 C A D => ?_)))))));subst D;refine K2 (zC (v := .bool true) rfl rfl (sB (cZ (zBO.2 am))) (pc0 rfl (rS 67108913 ?_)));refine wct rfl (rj (ag (rM 112 ?_)));exact zE (zU (en rfl E0 rfl))
 . skip
   have C:NumAt b1 Q _:=⟨_,hB1,rfl,IsNum.ext (show IsNum w (.agg #[.bool (decide (Q<0)),n1,d1]) Q from ⟨n1,d1,rfl,I,ap⟩) E0⟩;have A:NumAt b2 M _:=⟨_,hB2,rfl,IsNum.ext (show IsNum w (.agg #[.bool (decide (M<0)),n2,d2]) M from ⟨n2,d2,rfl,J,aq⟩) E0⟩;refine rI (K1 (zW rfl C fun v16 N16=>K1 (j2 E0 C.ext A.ext yB (zCA (hp.ext E0) N16 ha) fun v17 w2 E0 C A N17=>K1 (j2 E0 C.ext A.ext yB (Sign_ok N17) fun vi w2 E0 C A D => ?_))));subst D;refine K1 (zC (v := .bool false) rfl rfl (sB (cU (fun e=>ad (zBO.1 e)))) (mv (K7 (K2 (zW rfl A fun v22 N22=>K2 (j2 E0 C.ext A.ext yB (zCA (hp.ext E0) N22 hb) fun v23 w2 E0 C A N23=>K2 (j2 E0 C.ext A.ext yB (Sign_ok N23) fun vi w2 E0 C A D => ?_)))))));subst D;refine K2 (zC (v := .bool false) rfl rfl (sB (cU (fun e=>am (zBO.1 e)))) (pc0 rfl (rS 67108913 ?_)));refine wcf rfl (sk (rJ (K1 (j2 E0 C.ext A.ext yB (zQN (L:=[]) (hp.ext E0) (fun e=>absurd e h0)) fun v29 w2 E0 C A D => ?_))));obtain ⟨u,rfl,-⟩:=D;refine mv (xt rfl (xt rfl (ag (ag (rM 433 ?_)))));refine zA (rJ (K8 rfl (rM 8589934769 ?_)));refine wct (cW Value.bool (fO.2 h0)) (rj (ag (rM 112 ?_)));exact zE (zU (en rfl E0 rfl))
 . skip
   have C:NumAt b1 Q _:=⟨_,hB1,rfl,IsNum.ext (show IsNum w (.agg #[.bool (decide (Q<0)),n1,d1]) Q from ⟨n1,d1,rfl,I,ap⟩) E0⟩;have A:NumAt b2 M _:=⟨_,hB2,rfl,IsNum.ext (show IsNum w (.agg #[.bool (decide (M<0)),n2,d2]) M from ⟨n2,d2,rfl,J,aq⟩) E0⟩;clear I J;refine rI (K1 (zW rfl C fun v16 N16=>K1 (j2 E0 C.ext A.ext yB (zCA (hp.ext E0) N16 ha) fun v17 w2 E0 C A N17=>K1 (j2 E0 C.ext A.ext yB (Sign_ok N17) fun vi w2 E0 C A D => ?_))));subst D;refine K1 (zC (v := .bool false) rfl rfl (sB (cU (fun e=>ad (zBO.1 e)))) (mv (K7 (K2 (zW rfl A fun v22 N22=>K2 (j2 E0 C.ext A.ext yB (zCA (hp.ext E0) N22 hb) fun v23 w2 E0 C A N23=>K2 (j2 E0 C.ext A.ext yB (Sign_ok N23) fun vi w2 E0 C A D => ?_)))))));subst D;refine K2 (zC (v := .bool false) rfl rfl (sB (cU (fun e=>am (zBO.1 e)))) (pc0 rfl (rS 67108913 ?_)));refine wcf rfl (sk (rJ (K1 (j2 E0 C.ext A.ext yB (zQN (hp.ext E0) (fun _=>hl)) fun v29 w2 E0 C A D => ?_))));obtain ⟨u,rfl,G⟩:=D;replace G:=G h0;obtain ⟨cp,cc,rfl,aO,aP,aQ⟩:=G;have G:zBd _ (.slice cp l.length cc) l:=⟨cp,cc,rfl,aO,aP,aQ⟩;refine mv (xt rfl (xt rfl (ag (ag (rM 433 ?_)))));refine zA (rJ (K8 rfl (rM 8589934769 ?_)));refine wcf (cW Value.bool (by rw [h0];rfl)) ?_
   refine sk (zA (rJ (K1 (zG zJv rfl (mv (rM 120259084337 ?_))))));refine zF ?_;obtain ⟨aw,rfl⟩:=zEA hz;refine zX (X:=Nat) (fun i ρ w'=>Keep ρ [(0,v),(4,.pointer (some ⟨b1,0,none⟩)),(5,.pointer (some ⟨b2,0,none⟩)),(34,.slice cp l.length cc),(35,.int .i64 (l.length:Int)),(36,.int .i64 (i:Int))]/\i<=l.length/\Ext w w'/\NumAt b1 Q w'/\NumAt b2 M w'/\zBd w' (.slice cp l.length cc) l/\zID Q M (l.drop i) i=some n) (fun i=>l.length-i) 0 ⟨(kp rfl),di _,E0,C,A,G,H⟩ ?_;rintro i ρ1 w1 ⟨hk,a9,E0,C,A,G,H⟩;refine wpe_k _ hk ?_;refine rj (K8 rfl (rM 257698037809 ?_));refine zA ?_;refine K0 rfl ?_ ?_<;>intro hc
   . have ax:i<l.length:=t_lt hc;rw [zLh ax] at H;unfold zID at H;refine sk (zA (zF (rj (mv ?_))));refine K1 (zHf (let ⟨_,_,e1,_,e2,_⟩:=G;by cases e1;exact e2) rfl rfl ax ?_);refine K1 (zIt (let ⟨_,_,e1,_,e2,_⟩:=G;by cases e1;exact e2) ax rfl fun v40 N40 => ?_);refine ag (ag (rM 120259085873 ?_));refine zA (zA ?_);rcases (show i%2=1\/(i%2≠1/\(trim (l.getD i [])).length<=1)\/(i%2≠1/\¬ (trim (l.getD i [])).length<=1/\Q=M)\/(i%2≠1/\¬ (trim (l.getD i [])).length<=1/\Q≠M) from by by_cases q1:i%2=1;exact .inl q1;by_cases Z:(trim (l.getD i [])).length<=1;exact .inr (.inl ⟨q1,Z⟩);by_cases q3:Q=M;exact .inr (.inr (.inl ⟨q1,Z,q3⟩));exact .inr (.inr (.inr ⟨q1,Z,q3⟩))) with q1 | ⟨q1,Z⟩ | ⟨q1,Z,q3⟩ | ⟨q1,Z,q3⟩
     . rw [cD (.inl q1)] at H;refine rI (K1 (zAE (b:=2) (i%2) rfl rfl dE rfl ?_));refine K1 (zC (v := .bool true) rfl rfl (sB (by rw [q1];rfl)) ?_);refine mv (K3 (K3 (K3 (pc0 rfl (mv (K3 (K3 (K3 (K3 (pc0 rfl (rS 35149307975828529 ?_)))))))))));exact wct rfl (zT (zt (zI (zK (K6 (K1 (zg (b:=1) (i+1) rfl rfl rfl oM (mv (rl (zL (⟨rfl,i+1,⟨(kp rfl),oM,E0,C,A,G,H⟩,oM⟩)))))))))))
     . rw [cD (.inr (.inl Z))] at H;refine rI (K1 (zAE (b:=2) (i%2) rfl rfl dE rfl (K1 (zC (v := .bool false) rfl rfl (sB (dk.2 oM)) (mv (K7 (K2 (j3 E0 C.ext A.ext G.ext yB (zCn N40) fun vi w2 E0 C A G D => ?_))))))));subst D;refine K2 (zC (v := .bool true) rfl rfl (sB (cZ oM)) (pc0 rfl (mv (K3 (K3 (K3 (K3 (pc0 rfl (rS 35149307975828529 ?_)))))))));exact wct rfl (zT (zt (zI (zK (K6 (K1 (zg (b:=1) (i+1) rfl rfl rfl oM (mv (rl (zL (⟨rfl,i+1,⟨(kp rfl),oM,E0,C,A,G,H⟩,oM⟩)))))))))))
     . rw [cD (.inr (.inr q3))] at H;refine rI (K1 (zAE (b:=2) (i%2) rfl rfl dE rfl (K1 (zC (v := .bool false) rfl rfl (sB (dk.2 oM)) (mv (K7 (K2 (j3 E0 C.ext A.ext G.ext yB (zCn N40) fun vi w2 E0 C A G D => ?_))))))));subst D;refine K2 (zC (v := .bool false) rfl rfl (sB (cU oM)) (pc0 rfl (mv (K2 (zW rfl C fun v50 N50=>K2 (zW rfl A fun v51 N51=>K2 (j3 E0 C.ext A.ext G.ext yB (zEI N50 N51 aw) fun vi w2 E0 C A G D => ?_)))))));subst D;refine K2 (zC (v := .bool true) rfl rfl (sB (by subst q3;unfold rcmpI;rw [ct gR,cD rfl];rfl)) ?_);refine pc0 rfl (rS 35149307975828529 ?_);exact wct rfl (zT (zt (zI (zK (K6 (K1 (zg (b:=1) (i+1) rfl rfl rfl oM (mv (rl (zL (⟨rfl,i+1,⟨(kp rfl),oM,E0,C,A,G,H⟩,oM⟩)))))))))))
     . rw [ct (fun e=>e.elim q1 fun e=>e.elim Z q3)] at H;obtain ⟨cn,aR,H⟩:=bind_some H;refine rI (K1 (zAE (b:=2) (i%2) rfl rfl dE rfl (K1 (zC (v := .bool false) rfl rfl (sB (dk.2 oM)) (mv (K7 (K2 (j4 E0 C.ext A.ext G.ext N40.ext yB (zCn N40) fun vi w2 E0 C A G N40 D => ?_))))))));subst D;refine K2 (zC (v := .bool false) rfl rfl (sB (cU oM)) (pc0 rfl (mv (K2 (zW rfl C fun v50 N50=>K2 (zW rfl A fun v51 N51=>K2 (j4 E0 C.ext A.ext G.ext N40.ext yB (zEI N50 N51 aw) fun vi w2 E0 C A G N40 D => ?_)))))));subst D;refine K2 (zC (v := .bool false) rfl rfl (sB (dk.2 (zRA q3))) (pc0 rfl (rS 35149307975828529 ?_)));refine wcf rfl (sk (rJ (K1 (zW rfl C fun v57 N57=>K1 (zW rfl A fun v58 N58=>K1 (j4 E0 C.ext A.ext G.ext N40.ext yB (Count_ok N40 N57 N58 aR) fun vi w2 E0 C A G N40 D => ?_))))));subst D;refine mv (xt rfl (xt rfl (ag (ag (rM 17134909466348593 ?_)))));refine zA ?_
       rcases (show 1<cn.1\/(cn.1=1/\∃ y,peval (l.getD i []) M=some y/\y≠0)\/(cn.1=1/\∃ y,peval (l.getD i []) M=some y/\y=0)\/(¬ 1<cn.1/\cn.1≠1) from by by_cases q1:1<cn.1;exact .inl q1;by_cases Z:cn.1=1;(rw [ct q1,cD Z] at H;obtain ⟨y,hy,-⟩:=bind_some H;by_cases q3:y=0;exact .inr (.inr (.inl ⟨Z,y,hy,q3⟩));exact .inr (.inl ⟨Z,y,hy,q3⟩));exact .inr (.inr (.inr ⟨q1,Z⟩))) with q1 | ⟨Z,y,hy,q4⟩ | ⟨Z,y,hy,q4⟩ | ⟨q1,Z⟩
       . rw [cD q1] at H;obtain rfl:false=n:=dj H;rw [cD rfl] at U;subst U;refine rI (K1 (zC (v := .bool true) rfl rfl (sB (cZ q1)) (mv (K3 (K3 (K3 (K3 (K3 (K3 (K3 (K3 (K3 (pc0 rfl (rl ?_))))))))))))));refine zK (K5 [0,4,5,34,35,36,45,46,47,50,51,52,53,65,66,67,68,69,70,71,72,73,74] ?_);refine wct rfl (rj (ag (rM 120259084400 ?_)));exact zE (zd (zU (zAP (zd (zU (en rfl E0 rfl))))))
       . rw [ct oM,cD Z,hy] at H;replace H:(if y=0 then zID Q M (l.drop (i+1)) (i+1) else some false)=some n:=H;rw [ct q4] at H;obtain rfl:false=n:=dj H;rw [cD rfl] at U;subst U;refine rI (K1 (zC (v := .bool false) rfl rfl (sB (cU oM)) (mv (K7 ?_))));refine K2 (zC (v := .bool true) rfl rfl (sB (by rw [Z];rfl)) ?_);refine K7 (K7 (K2 (zW rfl A fun v69 N69=>K2 (j3 E0 C.ext A.ext G.ext yB (zCA N40 N69 hy) fun v70 w2 E0 C A G N70=>K2 (j3 E0 C.ext A.ext G.ext yB (Sign_ok N70) fun vi w2 E0 C A G D => ?_)))));subst D;refine K2 (zC (v := .bool true) rfl rfl (sB (fO.2 (fun e=>q4 (zFX.1 e)))) (K2 (zAB rfl (pc0 rfl (rs [0,4,5,34,35,36,45,46,47,50,51,52,53,65,66,67,68,69,70,71,72,73,74] ?_)))));refine wct rfl (rj (ag (rM 120259084400 ?_)));exact zE (zd (zU (zAP (zd (zU (en rfl E0 rfl))))))
       . rw [ct oM,cD Z,hy] at H;replace H:(if y=0 then zID Q M (l.drop (i+1)) (i+1) else some false)=some n:=H;rw [cD q4] at H;refine rI (K1 (zC (v := .bool false) rfl rfl (sB (cU oM)) (mv (K7 ?_))));refine K2 (zC (v := .bool true) rfl rfl (sB (by rw [Z];rfl)) ?_);refine K7 (K7 (K2 (zW rfl A fun v69 N69=>K2 (j3 E0 C.ext A.ext G.ext yB (zCA N40 N69 hy) fun v70 w2 E0 C A G N70=>K2 (j3 E0 C.ext A.ext G.ext yB (Sign_ok N70) fun vi w2 E0 C A G D => ?_)))));subst D;refine K2 (zC (v := .bool false) rfl rfl (sB (by rw [zFX.2 q4];rfl)) ?_);refine K2 (zAB rfl (pc0 rfl (rs [0,4,5,34,35,36,45,46,47,50,51,52,53,65,66,67,68,69,70,71,72,73,74] ?_)));exact wcf rfl (zw (zN (zK (K6 (K1 (zg (b:=1) (i+1) rfl rfl rfl oM (mv (rl (zL (⟨rfl,i+1,⟨(kp rfl),oM,E0,C,A,G,H⟩,oM⟩))))))))))
       . rw [ct q1,ct Z] at H;refine rI (K1 (zC (v := .bool false) rfl rfl (sB (cU q1)) (mv (K7 (K2 (zC (v := .bool false) rfl rfl (sB (dk.2 Z)) (K7 (K3 (K3 (K3 (K3 (K3 (K2 (zAB rfl (pc0 rfl (rl ?_))))))))))))))));refine zK (K5 [0,4,5,34,35,36,45,46,47,50,51,52,53,65,66,67,68,69,70,71,72,73,74] ?_);exact wcf rfl (zw (zN (zK (K6 (K1 (zg (b:=1) (i+1) rfl rfl rfl oM (mv (rl (zL (⟨rfl,i+1,⟨(kp rfl),oM,E0,C,A,G,H⟩,oM⟩))))))))))
   . obtain rfl:i=l.length:=by have:=f_lt hc;omega
     rw [eO] at H;obtain rfl:true=n:=dj H;rw [ct dE] at U;refine zT (zt (zf (zI (zK (zA (rj (K1 (zW rfl A fun v76 ay => ?_))))))));refine K1 (zR zAt fun gb w7 hb hE V U => ?_);have aa:w.heap.size<=gb:=by rw [hb];exact E0.size
     have I:gb≠b1:=by have:=C.lt;omega
     have J:gb≠b2:=by have:=A.lt;omega
     obtain ⟨E0,ay,C,A⟩:=V3 hE E0 ay.ext C.ext A.ext;clear U;refine K1 (zO rfl ay (Cell3.of V rfl) fun _ w9 hU F => ?_);replace E0:=E0.upd hU aa;replace C:=C.upd hU V (eH I);replace A:=A.upd hU V (eH J);refine rM 120259092529 ?_;refine zF (zX (X:=Nat) (fun f ρ w'=>∃ gb x,Keep ρ [(0,v),(4,.pointer (some ⟨b1,0,none⟩)),(5,.pointer (some ⟨b2,0,none⟩)),(13,.pointer (some ⟨gb,0,none⟩))]/\Ext w w'/\NumAt b1 Q w'/\NumAt b2 M w'/\NumAt gb x w'/\w.heap.size<=gb/\gb≠b1/\gb≠b2/\(if rcmpI Q M<0 then zOU p Q f x=some s else s=true)) (fun f=>f) (p.length+1) ⟨gb,M,(kp rfl),E0,C,A,F,aa,I,J,U⟩ ?_);rintro f ρ1 w1 ⟨gb,x,hk,E0,C,A,F,aa,I,J,U⟩;refine wpe_k _ hk ?_;refine zA (rj (K1 (zW rfl C fun v77 N77=>K1 (zW rfl A fun v78 N78=>K1 (j3 E0 C.ext A.ext F.ext yB (zEI N77 N78 aw) fun vi w2 E0 C A F D => ?_)))));subst D;refine K8 rfl (rm [0,4,5,13,80] ?_);refine K0 rfl ?_ ?_<;>intro hc
     . have ar:rcmpI Q M<0:=dh hc;rw [cD ar] at U;rcases f with _ | f
       . cases U
       unfold zOU at U;obtain ⟨sm,aS,U⟩:=bind_some U;obtain ⟨m,aU,U⟩:=bind_some U;obtain ⟨y,hy,U⟩:=bind_some U;obtain ⟨aV,rfl⟩:=zGV aS;obtain ⟨aW,rfl⟩:=zEB aU;refine sk (zA (zF (rj (K1 (zW rfl C fun v81 N81 => ?_)))));obtain ⟨n1,d1,rfl,aE,aF⟩:=N81;refine K1 (zW rfl F fun v82 N82 => ?_);obtain ⟨n2,d2,rfl,aG,aH⟩:=N82;refine K1 (zV (cs := #[.bool (decide (Q<0)),n1,d1,.bool (decide (x<0)),n2,d2]) kR (K1 (j3 E0 C.ext A.ext F.ext yB (SpanMid_ok ⟨n1,d1,n2,d2,rfl,⟨_,_,rfl,aE,aF⟩,⟨_,_,rfl,aG,aH⟩⟩ aV aW) fun v84 w2 E0 C A F N84 => ?_)));obtain ⟨ba,V,aX,-⟩:=F;refine K1 (zO rfl N84 (Cell3.of V aX) fun _ w9 hU F => ?_);replace E0:=E0.upd hU aa;replace C:=C.upd hU V (eH I);replace A:=A.upd hU V (eH J);refine rM 8241 ?_;refine rJ (K1 (zW rfl F fun v86 N86=>K1 (j3 E0 C.ext A.ext F.ext yB (zCA (hp.ext E0) N86 hy) fun v87 w2 E0 C A F N87=>K1 (j3 E0 C.ext A.ext F.ext yB (Sign_ok N87) fun vi w2 E0 C A F D => ?_))));subst D;refine ag (rM 24625 ?_);refine rJ (K8 rfl (rm [0,4,5,13,14,90] ?_));refine K0 rfl ?_ ?_<;>intro hc
       . have az:y≠0:=fun e=>(fO.1 hc) (zFX.2 e);rw [ct az] at U;obtain rfl:=dj U;refine rJ (K8 rfl (ag (rM 8304 ?_)));exact zE (zd (zU (zAP (zd (zU (en rfl E0 (cW Value.bool (fR.2 nsign_pos))))))))
       . have az:y=0:=zFX.1 (fP.1 hc);rw [cD az] at U;refine zw (zN (zK (rj (K1 (zW rfl F fun v93 aA => ?_)))));clear aa I J;refine rm [0,4,5,13,93] ?_;refine K6 ?_;refine K1 (zR zAt fun aB w7 hb hE V U => ?_);have aa:w.heap.size<=aB:=by rw [hb];exact E0.size
         have I:aB≠b1:=by have:=C.lt;omega
         have J:aB≠b2:=by have:=A.lt;omega
         obtain ⟨E0,aA,C,A⟩:=V3 hE E0 aA.ext C.ext A.ext;clear U;refine K1 (zO rfl aA (Cell3.of V rfl) fun _ w9 hU F => ?_);replace E0:=E0.upd hU aa;replace C:=C.upd hU V (eH I);replace A:=A.upd hU V (eH J);refine rl (zL ?_);exact ⟨rfl,f,⟨_,_,(kp rfl),E0,C,A,F,aa,I,J,by rw [cD ar];exact U⟩,oM⟩
     . have ar:¬ rcmpI Q M<0:=de hc;rw [ct ar] at U;subst U;refine zT (zt (zf (zI (zK (rj (ag (rM 8304 ?_)))))));exact zE (en rfl E0 rfl)
theorem witness_ok {B:Band} {up:Poly} {fuel:Nat} (hb:zNn w v B) (ah:IsPoly w u1 num) (V:IsPoly w u2 den) (U:rules num den B.least B.most=some (up,low)) (ay:rroom B.hi B.lo=true) (hw:witN up low B.lo (rabs (B.hi-B.lo)) fuel 1=some x) (az:2^fuel<=1099511627776):Ret prog 89 #[v,u1,u2] w (fun r w'=>IsNum w' r x):=by
 obtain ⟨c,rfl,ai,D⟩:=hb;refine J0 49 func89 rfl (rj ?_);refine K1 (zn (Z0 E0 fun b1 w1 E0 hgb1 s => ?_));refine K1 (zR zAt (Z1a E0 s.ext s.lt fun b2 w2 E0 s hgb2 ne_b1_b2 z=>rM 78 ?_));refine zA ?_;replace s:Blk _ b1 144 c:=s;replace z:Blk _ b2 37 [.bool false,.slice none 0 0,.slice none 0 0]:=z;replace D:=D.ext E0;replace ah:=ah.ext E0;replace V:=V.ext E0;refine K6 (K1 (zh zPW rfl s oM ?_));rw [zLg ai];refine mv (mv (K1 (j3 E0 s.ext D.ext z.ext yB (zRS ⟨c,rfl,ai,D⟩ ah V U) fun v14 w2 E0 s D z aj => ?_)));obtain ⟨va,vb,rfl,G,H⟩:=aj;clear V;refine K1 (zR zQF (Z5b E0 s.ext z.ext D.ext G.ext H.ext s.lt z.lt fun b3 w7 E0 s z D G H hg3 ne13 ne23 A => ?_));refine K1 (zc zQB rfl A rfl (cw rfl) dE (by obtain ⟨q1,q2,rfl,-⟩:=G;obtain ⟨q3,q4,rfl,-⟩:=H;kernel_rfl) fun w9 F hN => ?_);replace E0:=E0.upd F hg3;replace s:=s.upd F ne13;replace z:=z.upd F ne23;replace D:=D.updT F A dE;replace G:=G.updT F A dE dE;replace H:=H.updT F A dE dE;clear A;have A:=hN;refine rS 200 ?_;refine rj (ag (rM 456 ?_))
 refine zF (zX (X:=Nat) (fun f ρ w'=>∃ n:Nat,Keep ρ [(3,.pointer (some ⟨b1,0,none⟩)),(6,.pointer (some ⟨b2,0,none⟩)),(7,.pointer (some ⟨b3,0,none⟩)),(8,.int .i64 (n:Int))]/\Ext w w'/\Blk w' b1 144 c/\BandC w' c B/\Blk w' b2 37 [.bool false,.slice none 0 0,.slice none 0 0]/\Blk w' b3 245 [va,vb]/\IsPoly w' va up/\IsPoly w' vb low/\witN up low B.lo (rabs (B.hi-B.lo)) f n=some x/\0<n/\n*2^f<=1099511627776) (fun f=>f) fuel ⟨1,(kp rfl),E0,s,D,z,A,G,H,hw,dE,oM⟩ ?_);rintro f ρ1 w1 ⟨n,J,E0,s,D,z,A,G,H,hw,aI,az⟩;refine wpe_k _ J ?_;rcases f with _ | f
 . cases hw
 obtain ⟨r,I,hw⟩:=witN_some hw;have hpw:n*2^(f+1)=2*n*2^f:=by rw [dB,dm 2 n,dt,dm 2]
 have V:1<=2^f:=Nat.one_le_two_pow;have hn2:2*n<=2*n*2^f:=gh _ V;refine zA (zF (rJ (K1 (zg (b:=1) (n+1) rfl rfl rfl oM (mv (rM 786888 ?_))))));refine zF (zX (X:=Nat) (fun g ρ w'=>∃ j:Nat,Keep ρ [(3,.pointer (some ⟨b1,0,none⟩)),(6,.pointer (some ⟨b2,0,none⟩)),(7,.pointer (some ⟨b3,0,none⟩)),(8,.int .i64 (n:Int)),(18,.int .i64 ((n+1:Nat):Int)),(19,.int .i64 (j:Int))]/\Ext w w'/\Blk w' b1 144 c/\BandC w' c B/\Blk w' b2 37 [.bool false,.slice none 0 0,.slice none 0 0]/\Blk w' b3 245 [va,vb]/\IsPoly w' va up/\IsPoly w' vb low/\witJ up low B.lo (rabs (B.hi-B.lo)) n g j=some r/\j+g=n+1) (fun g=>g) (n+1) ⟨0,(kp rfl),E0,s,D,z,A,G,H,I,oM⟩ ?_);rintro g ρ1 w1 ⟨j,J,E0,s,D,z,A,G,H,I,aJ⟩;refine wpe_k _ J ?_;have hX:Ext w1 w1:=Ext.refl w1;refine zA ?_;rcases g with _ | g
 . obtain rfl:none=r:=dj I;replace hw:witN up low B.lo (rabs (B.hi-B.lo)) f (2*n)=some x:=hw;refine K6 (K8 rfl (rS 1835464 ?_));exact zA (wcf vF (zT (zt (zf (zI (zN (zK (rI (K1 (zBw (b:=2) (2*n) rfl rfl oM oM (ag (rl (zL (⟨rfl,f,⟨2*n,(kp rfl),E0,s,D,z,A,G,H,hw,oM,oM⟩,oM⟩))))))))))))))
 . unfold witJ at I;obtain ⟨q,hq,I⟩:=bind_some I;obtain ⟨m,hm,I⟩:=bind_some I;obtain ⟨y,hy,I⟩:=bind_some I;obtain ⟨a,ha,I⟩:=bind_some I;obtain ⟨aA,rfl⟩:=zFb hq;obtain ⟨aB,rfl⟩:=zEB hm;obtain ⟨aj,rfl⟩:=zGV hy;refine K6 (K8 rfl (rS 1835464 ?_));refine zA (wct vT (sk (zA (zF (rJ (ag (rM 787400 ?_)))))));refine zA ?_;have hE1:=E0;have hlt2:b2<w1.heap.size:=z.lt;refine zAR none 12 [[6],[1],[1],[6],[1],[1],[18],[16],[3,1],[7,1],[15,1],[]] mixed kR fun K hK=>du (fun M J=>zB zIl J.1 eR) (du (fun M J=>zB zOQ J.1 eR) (dC (fun v w'=>IsNum w' v B.lo) (fun M J=>zBQ J.1 (s.ext M) oM (D.ext M).1 fun _=>eX) (du (fun M J=>zB zIl J.1 eR) (dC (fun v w'=>zJz w' v B.lo B.hi) (fun M J=>zh aggr47 J.1 (s.ext M) oM ⟨Ext.refl _,(D.ext M).span ai⟩) (dl (fun M J=>SpanWidth_ok J.1 ay) (dM aL (dM aL (dC (fun v w'=>IsNum w' v ((j:Rat)/(n:Rat))) (fun M J=>zJ yB (CallK.eq2 J.1 J.2.1 (CallK.of_ret (zLC (a:=(j:Int)) (b:=(n:Int)) oM oM oM oM aA) fun v w2 hX U=>⟨hX,U⟩)) rfl) (dl (fun M J=>Mul_ok J.1 J.2.1 aB) (dl (fun M J=>zFH J.1 J.2.1 aj) ?_))))))))))
   refine dcp (fun v w'=>∃ b,v = .pointer (some ⟨b,0,none⟩)/\Blk w' b 37 [.bool false,.slice none 0 0,.slice none 0 0]/\w1.heap.size<=b) (fun _ _ _ _ hx h=>(let ⟨b,e,hB,hg⟩:=h;⟨b,e,hB.ext hx.toExt,hg⟩)) (fun σ wx M J=>zR zAt fun b w2 hb hX hB hs=>⟨hX,b,rfl,hB,(by rw [hb];exact M.size)⟩) ?_;refine zAJ (hK _ fun wq M => ?_);rintro _ rfl _ rfl v24 N24 _ rfl v26 N26 v27 N27 _ rfl _ rfl v30 N30 v31 N31 v32 N32 v10 N10;refine zY ?_;obtain ⟨E0,hX,s,z,A,D⟩:=V5 M E0 hX.ext s.ext z.ext A.ext D.ext;obtain ⟨gb,rfl,Z,ak⟩:=N10;have hg0:w.heap.size<=gb:=dz hE1.size ak;have hb1:b1≠gb:=s.neT Z dE;have hb3:b3≠gb:=A.neT Z dE;have hb2:b2≠gb:=by have:=hlt2;omega
   refine K1 (zO rfl N32 (Cell3.of Z rfl) fun _ w9 F C => ?_);replace E0:=E0.upd F hg0;replace G:=G.updN hX F Z ak;replace H:=H.updN hX F Z ak;replace s:=s.upd F hb1;replace z:=z.upd F hb2;replace A:=A.upd F hb3;replace D:=D.updT F Z dE;refine zAh (zK (K5 [3,6,7,8,10,18,19] ?_));refine zA ?_;rcases (show (a<0)\/(¬ a<0/\∃ b,peval low (B.lo+rabs (B.hi-B.lo)*((j:Rat)/(n:Rat)))=some b/\b<0)\/(¬ a<0/\∃ b,peval low (B.lo+rabs (B.hi-B.lo)*((j:Rat)/(n:Rat)))=some b/\¬ b<0) from by by_cases q1:a<0;exact .inl q1;rw [ct q1] at I;obtain ⟨b,hb,-⟩:=bind_some I;by_cases q2:b<0;exact .inr (.inl ⟨q1,b,hb,q2⟩);exact .inr (.inr ⟨q1,b,hb,q2⟩)) with L | ⟨L,b,hb,ab⟩ | ⟨L,b,hb,ab⟩
   . rw [cD L] at I;obtain rfl:=dj I;obtain rfl:=dj hw;refine K6 (K1 (zAA (ix:=0) zFJ rfl rfl dE dE (K1 (zD zBv rfl A rfl (K1 (zW rfl C fun v35 N35=>K1 (j7 E0 s.ext D.ext z.ext A.ext G.ext H.ext C.ext yB (zCA G N35 ha) fun v36 w2 E0 s D z A G H C N36=>K1 (j7 E0 s.ext D.ext z.ext A.ext G.ext H.ext C.ext yB (Sign_ok N36) fun vi w2 E0 s D z A G H C U => ?_))))))));subst U;refine K1 (zC (v := .bool true) rfl rfl (sB (cZ (zBO.2 L))) (mv (K3 (K3 (K3 (K3 (K3 (K3 (pc0 rfl (rS 139637977515464 ?_))))))))));refine wct rfl (rj (K1 (zW rfl C fun v47 N47=>K1 (zO rfl N47 (Cell3.of z rfl) fun _ w9 F Q => ?_))));replace E0:=E0.upd F hgb2;obtain ⟨aC,al,am,Q⟩:=Q;refine rM 786888 ?_;exact zE (zd (zU (zAP (zd (zd (zU (zAP (zd (zM ⟨rfl,_,zq rfl rfl rfl zAI al am,E0,Q⟩)))))))))
   . rw [ct L,hb] at I;replace I:(if b<0 then some (some (B.lo+rabs (B.hi-B.lo)*((j:Rat)/(n:Rat)))) else witJ up low B.lo (rabs (B.hi-B.lo)) n g (j+1))=some r:=I;rw [cD ab] at I;obtain rfl:=dj I;obtain rfl:=dj hw;refine K6 (K1 (zAA (ix:=0) zFJ rfl rfl dE dE (K1 (zD zBv rfl A rfl (K1 (zW rfl C fun v35 N35=>K1 (j7 E0 s.ext D.ext z.ext A.ext G.ext H.ext C.ext yB (zCA G N35 ha) fun v36 w2 E0 s D z A G H C N36=>K1 (j7 E0 s.ext D.ext z.ext A.ext G.ext H.ext C.ext yB (Sign_ok N36) fun vi w2 E0 s D z A G H C U => ?_))))))));subst U;refine K1 (zC (v := .bool false) rfl rfl (sB (cU (fun e=>L (zBO.1 e)))) (mv (K2 (zAA (ix:=1) zFJ rfl rfl dE dE (K2 (zD zBv rfl A rfl (K2 (zW rfl C fun v42 N42=>K2 (j7 E0 s.ext D.ext z.ext A.ext G.ext H.ext C.ext yB (zCA H N42 hb) fun v43 w2 E0 s D z A G H C N43=>K2 (j7 E0 s.ext D.ext z.ext A.ext G.ext H.ext C.ext yB (Sign_ok N43) fun vi w2 E0 s D z A G H C U => ?_))))))))));subst U;refine K2 (zC (v := .bool true) rfl rfl (sB (cZ (zBO.2 ab))) (pc0 rfl (rS 139637977515464 ?_)));refine wct rfl (rj (K1 (zW rfl C fun v47 N47=>K1 (zO rfl N47 (Cell3.of z rfl) fun _ w9 F Q => ?_))))
     replace E0:=E0.upd F hgb2;obtain ⟨aC,al,am,Q⟩:=Q;refine rM 786888 ?_;exact zE (zd (zU (zAP (zd (zd (zU (zAP (zd (zM ⟨rfl,_,zq rfl rfl rfl zAI al am,E0,Q⟩)))))))))
   . rw [ct L,hb] at I;replace I:(if b<0 then some (some (B.lo+rabs (B.hi-B.lo)*((j:Rat)/(n:Rat)))) else witJ up low B.lo (rabs (B.hi-B.lo)) n g (j+1))=some r:=I;rw [ct ab] at I;refine K6 (K1 (zAA (ix:=0) zFJ rfl rfl dE dE (K1 (zD zBv rfl A rfl (K1 (zW rfl C fun v35 N35=>K1 (j7 E0 s.ext D.ext z.ext A.ext G.ext H.ext C.ext yB (zCA G N35 ha) fun v36 w2 E0 s D z A G H C N36=>K1 (j7 E0 s.ext D.ext z.ext A.ext G.ext H.ext C.ext yB (Sign_ok N36) fun vi w2 E0 s D z A G H C U => ?_))))))));subst U;refine K1 (zC (v := .bool false) rfl rfl (sB (cU (fun e=>L (zBO.1 e)))) (mv (K2 (zAA (ix:=1) zFJ rfl rfl dE dE (K2 (zD zBv rfl A rfl (K2 (zW rfl C fun v42 N42=>K2 (j7 E0 s.ext D.ext z.ext A.ext G.ext H.ext C.ext yB (zCA H N42 hb) fun v43 w2 E0 s D z A G H C N43=>K2 (j7 E0 s.ext D.ext z.ext A.ext G.ext H.ext C.ext yB (Sign_ok N43) fun vi w2 E0 s D z A G H C U => ?_))))))))));subst U;refine K2 (zC (v := .bool false) rfl rfl (sB (cU (fun e=>ab (zBO.1 e)))) (pc0 rfl (rS 139637977515464 ?_)))
     exact wcf rfl (zw (zN (zK (K6 (K1 (zg (b:=1) (j+1) rfl rfl rfl oM (mv (rl (zL (⟨rfl,g,⟨j+1,(kp rfl),E0,s,D,z,A,G,H,I,oM⟩,oM⟩))))))))))
end Go.Proofs.YtjiendlfobjanaaGreatDoor
namespace Go.Proofs.YtjiendlfobjanaaGreatDoor
open Go Go.RowKit Go.Proofs Tryz
variable {K:Value->World->Prop} {P:Program} {T t' ty:TypeId} {af:Array Edge} {g:Option (Nat×Bool)} {n:Nat} {pos:String} {r:Option Nat} {w:World} {σ:Operand->Value}
abbrev S (l:List UInt8):Value := .string ⟨l.toArray⟩
theorem S_of (s:ByteArray):Value.string s=S s.data.toList:=by cases s;simp [S]
theorem zNu (l:List UInt8):(⟨l.toArray⟩:ByteArray).toList=l:=by
 rw [ByteArray.toList_eq]
theorem zHR (l:List UInt8):(⟨l.toArray⟩:ByteArray).size=l.length:=rfl
theorem zLF {b:Nat} {s:ByteArray} (h:w.heap[b]? = some (.stringIter s n)):(getObj b).run P w = .ok (.stringIter s n) w:=by simp [getObj,Sem.run,h]
theorem run_setIter {b:Nat} {s:ByteArray} (o:Obj) (h:w.heap[b]? = some (.stringIter s n)):(setObj b o).run P w = .ok () (w.putObj b o):=by simp [setObj,Sem.run,h,World.putObj]
section laws
variable {d:Option Tmp} {x y i:Operand} {a b l:List UInt8}
theorem zEk {h:BinOp} {t:TypeId} {x y:Operand} {a b:ByteArray}:(eqGuard h t x y (.string a) (.string b)).run P w = .ok () w:=by
 unfold eqGuard;cases h<;>simp
theorem zAD (z:P.underlying T=some .string) (A:σ x=S l) (C:K (.int .i64 (l.length:Int)) w):Runs P r ⟨d,.call { callee := .builtin .len,args := #[x],argTypes := #[T] },ty,pos,af,g⟩ σ w K :=
 runs_lenString z A (by rw [zHR];exact C)
theorem zAk (h:σ x=S a) (s:σ y=S b) (z:K (.bool (a==b)) w):Runs P r ⟨d,.binOp .eql T x y t',ty,pos,af,g⟩ σ w K:=by
 refine zy (fun _ e=>by cases e) ?_ z;simp [execOp,binOp,h,s,zEk,Op.stringOp,zNu]
theorem zPA (s:σ x=S a) (z:σ y=S b) (A:K (.bool (a != b)) w):Runs P r ⟨d,.binOp .neq T x y t',ty,pos,af,g⟩ σ w K:=by
 refine zy (fun _ e=>by cases e) ?_ A;simp [execOp,binOp,s,z,zEk,Op.stringOp,zNu];cases h:a==b<;>simp_all [bne]
theorem zBm (h:σ x=S a) (s:σ y=S b) (C:a.length+b.length<9223372036854775808) (z:K (S (a++b)) w):Runs P r ⟨d,.binOp .add T x y t',ty,pos,af,g⟩ σ w K:=by
 refine zy (fun _ e=>by cases e) ?_ z;have e:(⟨a.toArray⟩:ByteArray)++(⟨b.toArray⟩:ByteArray)=⟨(a++b).toArray⟩:=by
  apply ByteArray.ext;simp [ByteArray.data_append]
 have A:¬ (((a.length+b.length:Nat):Int)>IntKind.i64.max):=by
  have:IntKind.i64.max=9223372036854775807:=dE
  omega
 simp only [execOp,binOp,h,s,Sem.run_bind,zEk,Op.stringOp,zHR,e,ct A,Result.andThen_ok,Sem.run_pure]
theorem zAo {k:IntKind} (s:P.underlying T=some .string) (z:σ x=S l) (A:σ i = .int k (n:Int)) (h:n<l.length) (C:K (.int .u8 ((l.getD n 0).toNat:Int)) w):Runs P r ⟨d,.index T x i,ty,pos,af,g⟩ σ w K:=by
 refine zy (fun _ e=>by cases e) ?_ C;have e:(⟨l.toArray⟩:ByteArray)[n]? = some (l.getD n 0):=by
  have D:n<(⟨l.toArray⟩:ByteArray).size:=by rw [zHR];exact h
  rw [getElem?_pos (⟨l.toArray⟩:ByteArray) n D];congr 1;rw [cC,cY h];rfl
 simp [execOp,Instr.index,run_underlying s,z,A,asIntOf,e]
theorem zDX {k:IntKind} (h:P.underlying T=some .string) (s:σ x=S l) (z:σ i = .int k (n:Int)) (A:n<=l.length) (C:K (S (l.drop n)) w):Runs P r ⟨d,.slice T x (some i) none none,ty,pos,af,g⟩ σ w K:=by
 refine zy (fun _ e=>by cases e) ?_ C;have hb:=fun (y:Nat) (code:BoundsCode) (D:n<=y)=>zCl (P:=P) (k:=k) (i:=(n:Int)) (y:=y) (code:=code) oM oM w;have e:(⟨l.toArray⟩:ByteArray).extract n l.length=⟨(l.drop n).toArray⟩:=by
  apply ByteArray.ext;simp [ByteArray.data_extract,gy,dF]
 simp [execOp,Instr.sliceAt,Instr.slice,Instr.sliceBounds,run_underlying h,s,z,zHR,hb _ _ A,e]
theorem zFw {k:IntKind} (h:P.underlying T=some .string) (s:σ x=S l) (z:σ i = .int k (n:Int)) (A:n<=l.length) (C:K (S (l.take n)) w):Runs P r ⟨d,.slice T x none (some i) none,ty,pos,af,g⟩ σ w K:=by
 refine zy (fun _ e=>by cases e) ?_ C;have hb:=fun (y:Nat) (code:BoundsCode) (D:n<=y)=>zCl (P:=P) (k:=k) (i:=(n:Int)) (y:=y) (code:=code) oM oM w;have e:(⟨l.toArray⟩:ByteArray).extract 0 n=⟨(l.take n).toArray⟩:=by
  apply ByteArray.ext;simp [ByteArray.data_extract]
 simp [execOp,Instr.sliceAt,Instr.slice,Instr.sliceBounds,run_underlying h,s,z,zHR,hb _ _ A,e]
theorem runs_srange (s:P.underlying T=some .string) (z:σ x=S l) (A:∀ b w',b=w.heap.size->Ext w w'->w'.heap[b]? = some (.stringIter ⟨l.toArray⟩ 0)->K (.pointer (some ⟨b,0,none⟩)) w'):Runs P r ⟨d,.range T x,ty,pos,af,g⟩ σ w K:=by
 refine zBp (fun _ e=>by cases e) (v := .pointer (some ⟨w.heap.size,0,none⟩)) (w':={ w with heap:=w.heap.push (.stringIter ⟨l.toArray⟩ 0) }) ?_ (A _ _ rfl (Ext.push _) sM);simp [execOp,Instr.range,run_underlying s,z]
theorem runs_snext_end {b:Nat} (h:σ x = .pointer (some ⟨b,0,none⟩)) (s:w.heap[b]? = some (.stringIter ⟨l.toArray⟩ n)) (A:l.length<=n) (z:K (.tuple #[.bool false]) w):Runs P r ⟨d,.next x true,ty,pos,af,g⟩ σ w K:=by
 refine zy (fun _ e=>by cases e) ?_ z;have h2:¬ n<l.length:=oM
 simp only [execOp,Instr.next,h,Sem.run_bind,zLF s,Result.andThen_ok,zHR,ct h2,Sem.run_pure]
theorem runs_snext {b:Nat} (z:σ x = .pointer (some ⟨b,0,none⟩)) (h:w.heap[b]? = some (.stringIter ⟨l.toArray⟩ n)) (A:n<l.length) (C:(l.getD n 0).toNat<128)
 (D:∀ w',OthX b w w'->w'.heap[b]? = some (.stringIter ⟨l.toArray⟩ (n+1))->K (.tuple #[.bool true,.int .i64 (n:Int),.int .i32 ((l.getD n 0).toNat:Int)]) w'):Runs P r ⟨d,.next x true,ty,pos,af,g⟩ σ w K:=by
 have F:Utf8.decode ⟨l.toArray⟩ n=((l.getD n 0).toNat,1):=by
  have e:(⟨l.toArray⟩:ByteArray).get! n=l.getD n 0:=by
   simp [ByteArray.get!,Array.getElem!_eq_getD,cC];rfl
  unfold Utf8.decode;simp only [fw,e];rw [cD C]
 have s:b<w.heap.size:=(fj.1 h).1;refine zBp (fun _ e=>by cases e) (v := .tuple #[.bool true,.int .i64 (n:Int),.int .i32 ((l.getD n 0).toNat:Int)]) (w':=w.putObj b (.stringIter ⟨l.toArray⟩ (n+1))) ?_ (D _ (zEX _ h rfl) (by simp [World.putObj,s]));simp only [execOp,Instr.next,z,Sem.run_bind,zLF h,Result.andThen_ok,zHR,cD A,F,run_setIter _ h,Sem.run_pure,goInt]
end laws
theorem zAM:prog.underlying 9=some .string:=kR
theorem zTV:prog.underlying 52=some .string:=kR
def isDig (b:UInt8):Bool:=decide (48<=b.toNat)&&decide (b.toNat<=57)
def zEd:List UInt8:=[48,49,50,51,52,53,54,55,56,57]
theorem digSet_contains (x:UInt8):zEd.contains x=isDig x:=by
 have h:∀ n:Fin 256,zEd.contains (UInt8.ofFin n)=isDig (UInt8.ofFin n):=dK
 exact h x.toFin
def zAl (l:List UInt8):Bool:=l != []&&l.all isDig
def zAb (l:List UInt8):Bool:=zAl l&&(l==[48] || l.getD 0 0 != 48)
def cutAt (c:UInt8):List UInt8->List UInt8×List UInt8×Bool
 | []=>([],[],false)
 | b :: l=>if b=c then ([],l,true) else (b :: (cutAt c l).1,(cutAt c l).2.1,(cutAt c l).2.2)
def natS (l:List UInt8):Nat:=l.foldl (fun n b=>10*n+(b.toNat-48)) 0
def below (l:List UInt8):Bool:=l.head? == some 45
def zS (l:List UInt8):List UInt8:=if below l then l.tail else l
def zk (l:List UInt8):Rat×Int :=
 let c:=cutAt 47 (zS l)
 if !zAb c.1 || (c.1==[48]&&(below l || c.2.2)) then (0,6)
 else if c.2.2&&(!zAb c.2.1 || c.2.1==[48] || c.2.1==[49]) then (0,6)
 else if 1000<c.1.length\/1000<c.2.1.length then (0,3)
 else if !c.2.2 then (qOf (below l) (natS c.1) 1,0)
 else if Nat.gcd (natS c.1) (natS c.2.1)≠1 then (0,6) else (qOf (below l) (natS c.1) (natS c.2.1),0)
theorem trimR (l:List UInt8) (x:UInt8) (h:isDig x=true):(l++[x]).all isDig=l.all isDig:=by simp [h]
theorem zLO {l:List UInt8} (h:l.length=n+1):l=l.take n++[l.getD n 0]:=by
 have s:n<l.length:=oM
 rw [cC,cY s,Option.getD_some,<- dG s,dF oM]
theorem zOA (c:UInt8):∀ l:List UInt8,(Lib.indexByte l c = -1/\cutAt c l=(l,[],false))\/(∃ n:Nat,Lib.indexByte l c=n/\n<l.length/\cutAt c l=(l.take n,l.drop (n+1),true))
 | [] => .inl ⟨rfl,rfl⟩
 | b :: l=>by
  unfold Lib.indexByte cutAt;by_cases e:b=c
  . subst e;right;exact ⟨0,sM,sM,sM⟩
  . rcases zOA c l with ⟨h,s⟩ | ⟨n,h,s,z⟩
    . left;simp [e,h,s]
    . right;refine ⟨n+1,?_,by simp;omega,by simp [e,z]⟩;rw [h];have:((n:Int) == -1)=false:=by rw [dk];omega
      simp [e,this]
theorem zKp (l:List UInt8) (b:UInt8):natS (l++[b])=10*natS l+(b.toNat-48):=by unfold natS;simp
theorem zIm:∀ (n:Nat) (l:List UInt8),l.length=n->l.all isDig=true->natS l<10^n
 | 0,l,h,_=>by rw [fe.1 h];decide
 | n+1,l,h,s=>by
  have e:=zLO h;rw [e] at s ⊢;rw [zKp];simp only [List.all_append,List.all_cons,List.all_nil,Bool.and_true,ee] at s;have h1:=zIm n (l.take n) (by simp;omega) s.1;have h2:=s.2;unfold isDig at h2;simp only [ee,eA] at h2;rw [dB];omega
theorem zFo {l:List UInt8} (h:l.length<=1000) (z:l.all isDig=true):Fit (natS l):=by
 have A:=zIm l.length l rfl z;have h2:10^l.length<=2^(4*l.length):=by rw [gL];exact gB dE _
 by_cases s:natS l=0
 . rw [s];unfold Fit;decide
 . have:=(gd s (k:=4*l.length)).2 (fm A h2);unfold Fit;omega
end Go.Proofs.YtjiendlfobjanaaGreatDoor
namespace Go.Proofs.YtjiendlfobjanaaGreatDoor
open Go Go.RowKit Go.Proofs Tryz
set_option maxRecDepth 10000
set_option maxHeartbeats 2000000
section
variable {b:Nat} {l0:List UInt8} {w:World}
theorem zKJ {x:UInt8} (s:Blk w b 392 (Lib.setCells zEd).toList):Ret prog 364 #[.pointer (some ⟨b,0,none⟩),.int .u8 (x.toNat:Int)] w (fun v w'=>w'=w/\v = .bool (isDig x)) :=
 (Tryz.asciiSet_contains b x (isDig x) w (by rw [s.cell,Array.getElem?_toList,Lib.setCells_at,digSet_contains])).mono fun e w' ⟨he,h⟩=>⟨_,he,by rw [h];exact Ext.refl w,h,rfl⟩
theorem hv392 (w:World):(zeroValue 392).run prog w = .ok (.agg (Array.replicate 256 (.bool false))) w:=by
 have h:(prog.info? 392).bind (·.zero)=some (.agg (Array.replicate 256 (.bool false))):=kR
 cases s:prog.info? 392 with
 | none=>simp [s] at h
 | some i=>simp [s] at h;simp [zeroValue,typeInfo,s,h]
theorem makeSet_ok:Ret prog 344 #[S zEd] w (fun v w'=>v = .tuple #[.agg (Lib.setCells zEd),.bool true]) :=
 (Tryz.strings_makeASCIISet hv392 ⟨zEd.toArray⟩ w dE (fun j b h=>by
  have s:b∈zEd:=gY (by simpa using h);have key:∀ b∈zEd,b.toNat<128:=dK
  exact key b s)).mono fun e w' ⟨he,z⟩=>⟨_,he,by rw [z];exact Ext.push _,rfl⟩
theorem index47_ok {l:List UInt8} {c:UInt8}:Ret prog 306 #[S l,S [c]] w (fun v _=>v = .int .i64 (Lib.indexByte l c)) :=
 (Tryz.stringslite_Index_one ⟨l.toArray⟩ c w).mono fun e w' ⟨he,h⟩=>⟨_,he,by rw [h];exact Ext.refl w,rfl⟩
theorem cutPrefix_ok {l:List UInt8}:Ret prog 151 #[S l,S [45]] w (fun v _=>v = .tuple #[S (zS l),.bool (below l)]) :=
 (Tryz.strings_CutPrefix ⟨l.toArray⟩ ⟨#[45]⟩ w).mono fun e w' ⟨he,z⟩=>⟨_,he,by rw [z];exact Ext.refl w,by
  have s:Lib.hasPrefix l [45]=below l:=by
   cases l with
   | nil=>rfl
   | cons b l =>
    unfold Lib.hasPrefix below;by_cases e:b=45
    . subst e;simp [List.isPrefixOf]
    . have A:((45:UInt8)==b)=false:=dk.2 fun h=>e h.symm;have C:(some b==some (45:UInt8))=false:=dk.2 fun h=>e (dj h);simp only [List.head?_cons,List.isPrefixOf,A,C,Bool.false_and]
  have D:Lib.trimPrefix l [45]=zS l:=by
   unfold Lib.trimPrefix zS;rw [s];by_cases e:below l=true
   . rw [cD e,cD e];cases l<;>rfl
   . rw [ct e,ct e]
  show Value.tuple #[S (Lib.trimPrefix l [45]),.bool (Lib.hasPrefix l [45])]=_;rw [D,s]⟩
theorem size392:(prog.info? 392).map (·.size)=some 256:=kR
theorem zero392:(prog.info? 392).bind (·.zero)=some (.agg (Array.replicate 256 (.bool false))):=kR
theorem zLL:∀ (s cs:List Value) (o:Nat),o+s.length<=cs.length->zBr cs o s=cs.take o++(s++cs.drop (o+s.length))
 | [],cs,o,h=>by show cs=_;simp
 | v :: s,cs,o,h=>by
  simp at h;show zBr (cs.set o v) (o+1) s=_;rw [zLL s (cs.set o v) (o+1) (by simp;omega),List.set_eq_take_append_cons_drop,cD oM];have h1:(cs.take o).length=o:=by simp;omega
  rw [List.take_append,iI,h1,dF oM,eJ (l:=cs.take o) oM,show o+1-o=1 by omega,show o+1+s.length-o=s.length+1 by omega,show o+(v :: s).length=o+1+s.length by simp;omega];simp
theorem splice_all (cs l:List Value) (h:cs.length=l.length):zBr cs 0 l=l:=by
 rw [zLL _ _ _ oM,dW,eJ oM];simp
attribute [local irreducible] Runs WPE CallK Ret
theorem trimRight_ok (F:l0.length<1000000000) (G:Blk w b 392 (Lib.setCells zEd).toList):Ret prog 346 #[S l0,.pointer (some ⟨b,0,none⟩)] w (fun r _=>∃ l,r=S l/\l.length<=l0.length/\(l0.all isDig=l.all isDig)/\(l=[]\/isDig (l.getD (l.length-1) 0)=false)):=by
 refine J0 22 func346 rfl (rj (ag (rM 3 ?_)));refine zA (zF (zX (X:=Nat) (fun n ρ w'=>∃ l:List UInt8,l.length=n/\Keep ρ [(0,S l),(1,.pointer (some ⟨b,0,none⟩))]/\Ext w w'/\l.length<=l0.length/\(l0.all isDig=l.all isDig)/\(l0.all isDig=true->True)) (fun n=>n) l0.length ⟨l0,rfl,(kp rfl),E0,cX _,rfl,fun _=>trivial⟩ ?_));rintro n ρ1 w1 ⟨l,z,H,E0,A,s,-⟩;refine wpe_k _ H ?_;refine zA (rJ (K1 (zAD zAM rfl (K8 rfl (rM 131 ?_)))));refine K0 rfl ?_ ?_<;>intro hc
 . rcases n with _ | n
   . have:=dh hc;omega
   refine sk (zF (zA (rJ (mv (mv (K1 (zAD zAM rfl (K1 (zAL (b:=1) (n) rfl rfl oM oM (K1 (zAo zAM rfl rfl oM (K1 (j0 E0 yB ((zKJ (G.ext E0)).mono fun _ _ _ h=>h.2) fun vi w2 E0 hr => ?_)))))))))))));subst hr;refine K1 (zp rfl (rM 32771 ?_));refine K0 rfl ?_ ?_<;>intro hc
   . have D:isDig (l.getD n 0)=false:=by simpa using hc
     refine zT (zt (zDj dE (zf (zI (zK (rJ (ag (rM 18 ?_))))))));refine zE (zM ?_);exact ⟨rfl,_,zZ rfl rfl,E0,l,rfl,A,s,by first | exact .inl C | exact .inr (by rw [z];exact D)⟩
   . have D:isDig (l.getD n 0)=true:=by simpa using hc
     refine sk (rI (mv (K1 (zAD zAM rfl (K1 (zAL (b:=1) (n) rfl rfl oM oM (K1 (zFw (n:=n) zAM rfl rfl oM (ag (rl (zN (zL ?_))))))))))));exact ⟨rfl,n,⟨l.take n,by simp;omega,(kp rfl),E0,by simp;omega,by rw [s];conv=>{ lhs;rw [zLO z] };rw [trimR _ _ D],fun _=>trivial⟩,oM⟩
 . have C:l=[]:=fe.1 (by have:=de hc;omega);refine zT (zt (zf (zI (zK (rJ (ag (rM 18 ?_)))))));refine zE (zM ?_);exact ⟨rfl,_,zZ rfl rfl,E0,l,rfl,A,s,by first | exact .inl C | exact .inr (by rw [z];exact D)⟩
theorem trimLeft_ok (D:l0.length<1000000000) (F:Blk w b 392 (Lib.setCells zEd).toList):Ret prog 345 #[S l0,.pointer (some ⟨b,0,none⟩)] w (fun r _=>∃ l,r=S l/\l.length<=l0.length/\(l0.all isDig=l.all isDig)/\(l=[]\/isDig (l.getD 0 0)=false)):=by
 refine J0 16 func345 rfl (rj (ag (rM 3 ?_)));refine zA (zF (zX (X:=Nat) (fun n ρ w'=>∃ l:List UInt8,l.length=n/\Keep ρ [(0,S l),(1,.pointer (some ⟨b,0,none⟩))]/\Ext w w'/\l.length<=l0.length/\(l0.all isDig=l.all isDig)/\(l0.all isDig=true->True)) (fun n=>n) l0.length ⟨l0,rfl,(kp rfl),E0,cX _,rfl,fun _=>trivial⟩ ?_));rintro n ρ1 w1 ⟨l,H,G,E0,A,s,-⟩;refine wpe_k _ G ?_;refine zA (rJ (K1 (zAD zAM rfl (K8 rfl (rM 131 ?_)))));refine K0 rfl ?_ ?_<;>intro hc
 . rcases n with _ | n
   . have:=dh hc;omega
   refine sk (zF (zA (rJ (mv (K1 (zAo (n:=0) zAM rfl rfl oM (K1 (j0 E0 yB ((zKJ (F.ext E0)).mono fun _ _ _ h=>h.2) fun vi w2 E0 hr => ?_))))))));subst hr;refine K1 (zp rfl (rM 4099 ?_));refine K0 rfl ?_ ?_<;>intro hc
   . have z:isDig (l.getD 0 0)=false:=by simpa using hc
     refine zT (zt (zDj dE (zf (zI (zK (rJ (ag (rM 18 ?_))))))));exact zE (en rfl E0 ⟨l,rfl,A,s,by first | exact .inl C | exact .inr z⟩)
   . have z:isDig (l.getD 0 0)=true:=by simpa using hc
     refine sk (rI (K1 (zDX (n:=1) zAM rfl rfl oM (ag (rl (zN (zL ?_)))))));exact ⟨rfl,n,⟨l.drop 1,by simp;omega,(kp rfl),E0,by simp;omega,by rw [s];cases l with | nil=>rfl | cons x t=>(simp at z;simp [z]),fun _=>trivial⟩,oM⟩
 . have C:l=[]:=fe.1 (by have:=de hc;omega);refine zT (zt (zf (zI (zK (rJ (ag (rM 18 ?_)))))));exact zE (en rfl E0 ⟨l,rfl,A,s,by first | exact .inl C | exact .inr z⟩)
end
end Go.Proofs.YtjiendlfobjanaaGreatDoor
namespace Go.Proofs.YtjiendlfobjanaaGreatDoor
open Go Go.RowKit Go.Proofs Tryz
set_option maxRecDepth 10000
set_option maxHeartbeats 2000000
attribute [local irreducible] Runs WPE CallK Ret
variable {l0:List UInt8} {w:World}
theorem setOk:(Lib.setCells zEd).toList.all zDT=true:=by
 rw [eZ];intro v h;rw [Lib.setCells_eq] at h;simp at h;obtain ⟨n,_,rfl⟩:=h;rfl
theorem zMm {l:List UInt8} (h:l≠[]):(l==[])=false:=dk.2 h
theorem TrimD_ok (z:l0.length<1000000000):Ret prog 307 #[S l0,S zEd] w (fun r _=>∃ t,r=S t/\(t=[]->l0.all isDig=true)/\(l0.all isDig=true->t=[])):=by
 refine J0 43 func307 rfl (rj (ag (rM 3 ?_)));refine zA (zA ?_);by_cases C:l0=[]
 . subst C;refine rI (K1 (zAk rfl rfl (mv (K3 (K3 (pc0 rfl (rS 4099 ?_)))))));refine wct rfl (rJ (ag (rm [4] ?_)));exact zE (zU (en rfl E0 ⟨[],rfl,fun _=>rfl,fun _=>rfl⟩))
 . skip
   refine rI (K1 (zAk rfl rfl ?_));rw [zMm C];refine mv (K7 (K2 (zAk rfl rfl (pc0 rfl (rS 4099 ?_)))));refine wcf rfl (sk (zA (rJ (K1 (zAD zAM rfl (K8 rfl (mv (K3 (K3 (K3 (pc0 rfl (rm [0,1,21] ?_))))))))))));refine wcf rfl (sk (zA (rJ (K1 (j0 E0 yB (makeSet_ok) fun H w2 E0 s => ?_)))));subst s;refine mv (xt rfl (xt rfl ?_));refine K1 (zR zero392 (Z0 E0 fun b1 w7 E0 hg1 hB1=>K1 (zc (n:=256) size392 rfl hB1 (Lib.setCells_size _) (by simp [Value.cells]) dE setOk fun w9 hU hN => ?_)));replace E0:=E0.upd hU hg1;have A:Blk w9 b1 392 (Lib.setCells zEd).toList:=by
    have e:zBr (Value.agg (Array.replicate 256 (Value.bool false))).cells.toList 0 (Lib.setCells zEd).toList=(Lib.setCells zEd).toList:=splice_all _ _ (by simp [Value.cells,Lib.setCells_size]);rw [<- e];exact hN
   refine ag (rM 99 ?_);refine rJ (rm [0,1,5,34] ?_);refine wct rfl (rJ (K1 (j1 E0 A.ext yB (trimRight_ok z A) fun G w2 E0 A s => ?_)));obtain ⟨I,rfl,q1,D,-⟩:=s;refine K1 (j0 E0 yB (trimLeft_ok oM A) fun v37 w2 E0 s => ?_);obtain ⟨l2,rfl,J,F,h⟩:=s;refine ag (rm [4] ?_);refine zE (zU (en rfl E0 ⟨l2,rfl,fun e => ?_,fun e => ?_⟩))
   . rw [D,F,e];rfl
   . rcases h with h | h
     . exact h
     . cases l2 with
       | nil=>rfl
       | cons x t =>
        rw [D,F] at e;simp at e h;rw [e.1] at h;cases h
theorem zAx {l:List UInt8} (s:l.length<1000000000):Ret prog 246 #[S l] w (fun r _=>r = .bool (zAl l)):=by
 refine J0 10 func246 rfl (rj (ag (rM 1 ?_)));refine zA ?_;by_cases z:l=[]
 . subst z;refine rI (K1 (zPA rfl rfl (mv (K3 (K3 (K3 (pc0 rfl (ag (rS 4 ?_)))))))));refine zE (zM ?_)
   first
   | exact ⟨rfl,_,zZ rfl rfl,E0,rfl⟩
   | (refine ⟨rfl,_,zZ rfl rfl,E0,cW Value.bool ?_⟩
      unfold zAl;rw [show (l != [])=true from fO.2 z,iK];by_cases e:l.all isDig=true
      . rw [e,A e];rfl
      . rw [ib.2 e,zMm (fun h=>e (q1 h))])
 . skip
   refine rI (K1 (zPA rfl rfl ?_));rw [show (l != [])=true from fO.2 z];refine mv (K7 (K2 (j0 E0 yB (TrimD_ok s) fun v7 w2 E0 hr => ?_)));obtain ⟨t,rfl,q1,A⟩:=hr;refine K2 (zAk rfl rfl (pc0 rfl (ag (rS 4 ?_))));refine zE (zM ?_)
   first
   | exact ⟨rfl,_,zZ rfl rfl,E0,rfl⟩
   | (refine ⟨rfl,_,zZ rfl rfl,E0,cW Value.bool ?_⟩
      unfold zAl;rw [show (l != [])=true from fO.2 z,iK];by_cases e:l.all isDig=true
      . rw [e,A e];rfl
      . rw [ib.2 e,zMm (fun h=>e (q1 h))])
theorem zEP {l:List UInt8} (s:l.length<1000000000):Ret prog 153 #[S l] w (fun r _=>r = .bool (zAb l)):=by
 refine J0 14 func153 rfl (rj (ag (rM 1 ?_)));refine zA ?_;rcases (show zAl l=false\/(zAl l=true/\(l==[48])=true)\/(zAl l=true/\(l==[48])=false) from by cases zAl l<;>cases (l==[48])<;>simp) with z | ⟨z,A⟩ | ⟨z,A⟩
 . skip
   refine rI (K1 (j0 E0 yB (zAx s) fun F w2 E0 C => ?_));subst C;rw [z];refine mv (K3 (K3 (K3 (K3 (K3 (K3 (K3 (pc0 rfl (ag (rS 4 ?_))))))))));refine zE (zM ?_);exact ⟨rfl,_,zZ rfl rfl,E0,by unfold zAb;rw [z];rfl⟩
 . skip
   refine rI (K1 (j0 E0 yB (zAx s) fun F w2 E0 C => ?_));subst C;rw [z];refine mv (K7 (K2 (zAk rfl rfl ?_)));rw [A];refine K7 (K3 (K3 (K3 (K2 (zAB rfl (pc0 rfl (ag (rS 4 ?_))))))));refine zE (zM ?_);exact ⟨rfl,_,zZ rfl rfl,E0,by unfold zAb;rw [z,A];rfl⟩
 . have D:0<l.length:=by
    cases l with
    | nil=>cases z
    | cons x t=>simp
   refine rI (K1 (j0 E0 yB (zAx s) fun F w2 E0 C => ?_));subst C;rw [z];refine mv (K7 (K2 (zAk rfl rfl ?_)));rw [A];refine K7 (K7 (K2 (zAo (n:=0) zAM rfl rfl D (K2 (zC rfl rfl rfl (K2 (zAB rfl (pc0 rfl (ag (rS 4 ?_))))))))));refine zE (en rfl E0 (cW Value.bool ?_));unfold zAb;rw [z,A,iK,Bool.false_or];by_cases e:l.getD 0 0=48
   . rw [e];rfl
   . have G:(l.getD 0 0 != 48)=true:=fO.2 e;have e3:(l.getD 0 0).toNat≠48:=fun h=>e (gP.1 h);rw [G];exact fO.2 (fun h=>e3 oM)
variable {a b k:Nat}
theorem natS_take {l:List UInt8} (h:k<l.length):natS (l.take (k+1))=10*natS (l.take k)+((l.getD k 0).toNat-48):=by
 rw [dG h,zKp,cC,cY h];rfl
theorem zSM {l:List UInt8} (h:k<l.length) (z:l.all isDig=true):48<=(l.getD k 0).toNat/\(l.getD k 0).toNat<=57:=by
 have s:=eZ.1 z (l.getD k 0) (by rw [cC,cY h];exact fD h);unfold isDig at s;simpa using s
theorem wrap32 {x:Int} (h:0<=x) (s:x<1000):IntKind.i32.wrap x=x:=by
 have:x%4294967296=x:=oM
 simp [IntKind.wrap,IntKind.bits,IntKind.signed,this];omega
theorem under21':prog.underlying 21=some (.int .i32):=kR
theorem under164':prog.underlying 164=some (.int .u64):=kR
theorem zQl (h:a<=b) (s:Fit b):Fit a:=s.le h
theorem zHu (h:a<18446744073709551616):Fit a:=by
 unfold Fit;by_cases s:a=0
 . subst s;decide
 . have z:a<2^64:=h;have:=(gd s).2 z;omega
theorem cut2_ok {l:List UInt8} {c:UInt8} (z:l.length<1000000000):Ret prog 245 #[S l,S [c]] w (fun r _=>r = .tuple #[S (cutAt c l).1,S (cutAt c l).2.1,.bool (cutAt c l).2.2]):=by
 refine J0 23 func245 rfl (rj (ag (ag (ag (rM 3 ?_)))));refine zA (rJ (mv (K1 (j0 E0 yB (index47_ok) fun F w2 E0 A => ?_))));subst A;refine ag (rM 131 ?_);refine zA ?_;rcases zOA c l with ⟨h,s⟩ | ⟨n,h,s,C⟩
 . rw [h];refine rI (K8 rfl (rS 4227 ?_));refine wcf rfl (sk (rJ (ag (ag (ag (rM 112 ?_))))));refine zE (zM ?_);exact ⟨rfl,_,zBu rfl rfl rfl rfl,E0,by rw [s];rfl⟩
 . rw [h];refine rI (K8 rfl (rS 4227 ?_));refine wct vT (zA (zBx 12 mixed kR fun K D=>qM (qM (qS (fun hE=>zFw (n:=n) zAM rfl rfl oM eQ) (qM (qM (qM (qS (fun hE=>zAD zAM rfl eQ) (qS (fun hE=>zg (b:=1) (n+1) rfl rfl rfl oM eQ) (qS (fun hE=>zDX (n:=n+1) zAM rfl rfl oM eQ) (qS (fun hE=>zr eQ) (qS (fun hE=>zr eQ) (qS (fun hE=>zr eQ) ?_)))))))))))));refine D _ fun wq hE=>zAh ?_;replace E0:=E0.trans hE;refine zK (K5 [4,5,6] ?_);refine zE (zU (zM ?_));exact ⟨rfl,_,zBu rfl rfl rfl rfl,E0,by rw [C];rfl⟩
theorem Cut_ok {l:List UInt8} {c:UInt8} (h:l.length<1000000000):Ret prog 152 #[S l,S [c]] w (fun r _=>r = .tuple #[S (cutAt c l).1,S (cutAt c l).2.1,.bool (cutAt c l).2.2]):=by
 refine J0 13 func152 rfl (rj (ag (ag (ag (rM 3 ?_)))));refine rJ (mv (K1 (j0 E0 yB (cut2_ok h) fun z w2 E0 s => ?_)));subst s;refine xt rfl (xt rfl (xt rfl (ag (ag (ag (rM 112 ?_))))));exact zE (zM ⟨rfl,_,zBu rfl rfl rfl rfl,E0,rfl⟩)
theorem zJw {l:List UInt8} (hl:l.length<=1000) (J:l.all isDig=true):Ret prog 154 #[S l] w (fun r w'=>IsW w' r (natS l)):=by
 refine J0 37 func154 rfl (rj (ag (rM 1 ?_)));refine rj (ag (rM 9 ?_));refine rj (ag (ag (rM 57 ?_)));refine zA (rJ (K1 (runs_srange zAM rfl fun Q w7 hb C L => ?_)));have hib:w.heap.size<=Q:=by rw [hb];exact E0.size
 replace E0:=E0.trans C;refine rM 568 ?_;refine zF (zX (X:=Nat) (fun k ρ w'=>∃ (M:Value) (n p f j:Nat),Keep ρ [(3,M),(4,.int .u64 (p:Int)),(5,.int .u64 (f:Int)),(9,.pointer (some ⟨Q,0,none⟩))]/\k<=l.length/\Ext w w'/\w'.heap[Q]? = some (.stringIter ⟨l.toArray⟩ k)/\IsW w' M n/\p<f/\f=10^j/\j<18/\natS (l.take k)=n*f+p) (fun k=>l.length-k) 0 ⟨_,0,0,1,0,(kp rfl),di _,E0,L,IsW.nil rfl,dE,rfl,dE,rfl⟩ ?_);rintro k ρ1 w1 ⟨M,n,p,f,j,hk,ah,E0,L,D,ai,F,hj,h⟩;refine wpe_k _ hk ?_;have hfl:f<=100000000000000000:=by rw [F];exact dz (dw dE (oM:j<=17)) dE
 have aj:1<=f:=by rw [F];exact Nat.one_le_pow _ _ dE
 refine zA ?_;by_cases H:k<l.length
 . obtain ⟨ak,al⟩:=zSM H J;have hnat2:natS (l.take (k+1))=n*(10*f)+(10*p+((l.getD k 0).toNat-48)):=by
    rw [natS_take H,h,dV,Nat.mul_left_comm];omega
   refine K6 (K1 (runs_snext rfl L H oM fun w7 V s => ?_));replace E0:=E0.oth V hib;replace D:=D.le V.le;clear h;have h:=hnat2;have A:Fit (natS (l.take (k+1))):=zFo (by simp;omega) (by rw [eZ] at J ⊢;exact fun x hx=>J x (List.mem_of_mem_take hx));refine xt rfl (rS 3640 ?_);refine zA (wct rfl (sk (zF (rj (xt rfl (ag (rM 696 ?_)))))));refine rJ (K1 (zDY (a:=10) (10*p) rfl rfl rfl oM (mv ?_)));refine K1 (zC (v := .int .i32 (((l.getD k 0).toNat-48:Nat):Int)) rfl rfl (cW (fun z=>some (Value.int .i32 z)) (by rw [wrap32 oM oM];omega)) ?_);refine K1 (zGw ((l.getD k 0).toNat-48) under21' under164' rfl oM (K1 (zCu (10*p+((l.getD k 0).toNat-48)) rfl rfl rfl oM (mv (K1 (zDY (a:=10) (10*f) rfl rfl rfl oM (ag (ag (rM 568 ?_)))))))));refine rJ (K8 rfl (rM 4194872 ?_));refine K0 rfl ?_ ?_<;>intro hc
   . have I:10*f=1000000000000000000:=t_beq hc;refine rI (mv (K1 (zJ yB (CallK.of_ret (zGb (d:=10*f) oM) fun v1 w2 C N1 => ?_) rfl)));obtain ⟨E0,D⟩:=V1 C E0 D.ext;replace s:=C.heap s;refine K1 (zJ yB (CallK.of_ret (zGR D N1 (zQl (by rw [h];exact dz (gh _ oM) (gV _ _)) A) (zHu oM)) fun v2 w2 C G => ?_) rfl);replace E0:=E0.trans C;replace s:=C.heap s;refine mv (K1 (zJ yB (CallK.of_ret (zGb (d:=10*p+((l.getD k 0).toNat-48)) oM) fun v3 w2 C N3 => ?_) rfl));obtain ⟨E0,G⟩:=V1 C E0 G.ext;replace s:=C.heap s;refine K1 (zJ yB (CallK.of_ret (zRw G N3 (zQl (by rw [h];exact gV _ _) A) (zHu oM)) fun Z w2 C U => ?_) rfl);replace E0:=E0.trans C;replace s:=C.heap s;refine ag (ag (ag (rl (zN (zL ?_)))));exact ⟨rfl,k+1,⟨Z,n*(10*f)+(10*p+((l.getD k 0).toNat-48)),0,1,0,(kp rfl),oM,E0,s,U,dE,rfl,dE,by rw [h];simp⟩,oM⟩
   . have I:10*f≠1000000000000000000:=f_beq hc;have hj17:j≠17:=fun e=>I (by rw [F,e]);exact zw (zN (zL (⟨rfl,k+1,⟨M,n,10*p+((l.getD k 0).toNat-48),10*f,j+1,(kp rfl),oM,E0,s,D,oM,by rw [F,dB,dm],oM,h⟩,oM⟩)))
 . obtain rfl:k=l.length:=by omega
   rw [ej] at h;have A:=zFo hl J;refine K6 (K1 (runs_snext_end rfl L (cX _) (xt rfl (rS 3640 ?_))));refine zA (wcf rfl (zT (zt (zf (zI (zK (rJ (mv (K1 (j1 E0 D.ext yB (zGb (d:=f) oM) fun v1 w2 E0 D N1 => ?_))))))))));refine K1 (j0 E0 yB (zGR D N1 (zQl (by rw [h];exact dz (gh _ oM) (gV _ _)) A) (zHu oM)) fun v2 w2 E0 G => ?_);refine mv (K1 (j1 E0 G.ext yB (zGb (d:=p) oM) fun v3 w2 E0 G N3 => ?_));refine K1 (j0 E0 yB (zRw G N3 (zQl (by rw [h];exact gV _ _) A) (zHu oM)) fun Z w2 E0 U => ?_);refine ag (rM 564 ?_);refine zE (zM ?_);exact ⟨rfl,_,zZ rfl rfl,E0,by rw [h];exact U⟩
theorem zBP {l:List UInt8} (h:zAb l=true):l.all isDig=true:=by
 unfold zAb zAl at h;simp only [ee] at h;exact h.1.2
theorem zHr (c:UInt8):∀ l:List UInt8,(cutAt c l).1.length<=l.length/\(cutAt c l).2.1.length<=l.length
 | []=>⟨cX _,cX _⟩
 | b :: l=>by
  have h:=zHr c l;unfold cutAt;split
  . simp
  . simp;omega
theorem zGa (l:List UInt8):(zS l).length<=l.length:=by
 unfold zS;split<;>simp
theorem zFZ {l:List UInt8} (h:zAb l=true) (G:(l==[48])=false):natS l≠0/\((l==[49])=false->natS l≠1):=by
 have D:=zBP h;unfold zAb zAl at h;simp only [ee,G,Bool.false_or] at h;cases l with
 | nil=>exact absurd h.1.1 dE
 | cons b t =>
  have H:b≠48:=by have:=h.2;simpa using this
  have s:isDig b=true:=by simp at D;exact D.1
  have A:1<=b.toNat-48:=by
   unfold isDig at s;simp at s;have:b.toNat≠48:=fun e=>H (gP.1 e);omega
  have C:∀ (t:List UInt8) (n:Nat),n<=t.foldl (fun n b=>10*n+(b.toNat-48)) n/\(t≠[]->1<=n->10<=t.foldl (fun n b=>10*n+(b.toNat-48)) n):=fun t=>by
   induction t with
   | nil=>intro n;exact ⟨cX _,fun h=>absurd rfl h⟩
   | cons c t I =>
    intro n;have F:=(I (10*n+(c.toNat-48))).1;simp only [List.foldl_cons];exact ⟨oM,fun _ h=>by omega⟩
  have e:natS (b :: t)=t.foldl (fun n b=>10*n+(b.toNat-48)) (b.toNat-48):=by unfold natS;simp
  rw [e];have F:=C t (b.toNat-48);refine ⟨oM,fun z => ?_⟩;by_cases ht:t=[]
  . subst ht;simp at z ⊢;intro J;have:b.toNat=49:=by omega
    exact z (gP.1 this)
  . have:=F.2 ht A;omega
theorem zBB (l:List UInt8):zk l =
 if (!zAb (cutAt 47 (zS l)).1 || ((cutAt 47 (zS l)).1==[48]&&(below l || (cutAt 47 (zS l)).2.2)))=true then (0,6)
 else if ((cutAt 47 (zS l)).2.2&&(!zAb (cutAt 47 (zS l)).2.1 || (cutAt 47 (zS l)).2.1==[48] || (cutAt 47 (zS l)).2.1==[49]))=true then (0,6)
 else if 1000<(cutAt 47 (zS l)).1.length\/1000<(cutAt 47 (zS l)).2.1.length then (0,3)
 else if (!(cutAt 47 (zS l)).2.2)=true then (qOf (below l) (natS (cutAt 47 (zS l)).1) 1,0)
 else if Nat.gcd (natS (cutAt 47 (zS l)).1) (natS (cutAt 47 (zS l)).2.1)≠1 then (0,6) else (qOf (below l) (natS (cutAt 47 (zS l)).1) (natS (cutAt 47 (zS l)).2.1),0):=rfl
theorem numOf_ratio {n d:Value} {s:Bool} (D:IsW w n a) (F:IsW w d b) (G:a≠0) (h:b≠0) (z:b≠1) (H:Nat.gcd a b=1):IsNum w (.agg #[.bool s,n,d]) (qOf s a b):=by
 have A:=zIo (s:=s) (a:=a) h;have C:=zLB (s:=s) (a:=a) h;have I:=zPu (s:=s) G h;rw [H,fI] at A C;refine ⟨n,d,by rw [I],by rw [A];exact D,by rw [C,ct z];exact F⟩
theorem Parse_ok {l:List UInt8} (av:l.length<1000000000):Ret prog 65 #[S l] w (fun r w'=>∃ u,r = .tuple #[u,.int .i64 (zk l).2]/\IsNum w' u (zk l).1):=by
 refine J0 85 func65 rfl (rj ?_);refine K1 (zR zAt (Z0 E0 fun b1 w1 E0 F A=>ag (rM 5 ?_)));refine zA ?_;have hul:=zGa l;have hcl:=zHr 47 (zS l);refine rI (K1 (j1 E0 A.ext yB (cutPrefix_ok) fun vi w2 E0 A Q => ?_));subst Q;refine mv (xt rfl (xt rfl (ag (ag (rS 52 ?_)))));refine rJ (K1 (j1 E0 A.ext yB (Cut_ok oM) fun vi w2 E0 A Q => ?_));subst Q;refine mv (xt rfl (xt rfl (xt rfl (ag (ag (ag (rM 484 ?_)))))));refine zA (zF (zA ?_));rcases (show zAb (cutAt 47 (zS l)).1=false\/(zAb (cutAt 47 (zS l)).1=true/\((cutAt 47 (zS l)).1==[48])=false)\/(zAb (cutAt 47 (zS l)).1=true/\((cutAt 47 (zS l)).1==[48])=true/\below l=true)\/(zAb (cutAt 47 (zS l)).1=true/\((cutAt 47 (zS l)).1==[48])=true/\below l=false/\(cutAt 47 (zS l)).2.2=true)\/(zAb (cutAt 47 (zS l)).1=true/\((cutAt 47 (zS l)).1==[48])=true/\below l=false/\(cutAt 47 (zS l)).2.2=false) from by cases zAb (cutAt 47 (zS l)).1<;>cases ((cutAt 47 (zS l)).1==[48])<;>cases below l<;>cases (cutAt 47 (zS l)).2.2<;>simp) with U | ⟨U,hz⟩ | ⟨U,hz,V⟩ | ⟨U,hz,V,ht⟩ | ⟨U,hz,V,ht⟩
 . have hA:(!zAb (cutAt 47 (zS l)).1 || ((cutAt 47 (zS l)).1==[48]&&(below l || (cutAt 47 (zS l)).2.2)))=true:=by rw [U];simp
   have he:zk l=(0,6):=by rw [zBB,hA,cD rfl]
   refine rI (K1 (j1 E0 A.ext yB (zEP oM) fun vi w2 E0 A Q => ?_));subst Q;rw [U];refine K1 (zp rfl (mv (K3 (K3 (K3 (K3 (K3 (K3 (K3 (K3 (pc0 rfl (ag (rS 4194788 ?_)))))))))))));refine wct rfl (rj (K1 (zV (cs := #[.bool false,.slice none 0 0,.slice none 0 0]) kR (K1 (zO rfl IsNum.zero (Cell3.of A rfl) fun _ w9 G z => ?_)))));replace E0:=E0.upd G F;obtain ⟨H,C,D,z⟩:=z;refine ag (rM 12 ?_);refine zE (zd (zU (zM ?_)));exact ⟨rfl,_,za rfl rfl rfl rfl zAI C D,E0,_,by rw [he];rfl,by rw [he];exact z⟩
 . have hA:(!zAb (cutAt 47 (zS l)).1 || ((cutAt 47 (zS l)).1==[48]&&(below l || (cutAt 47 (zS l)).2.2)))=false:=by rw [U,hz];simp
   refine rI (K1 (j1 E0 A.ext yB (zEP oM) fun vi w2 E0 A Q => ?_));subst Q;rw [U];refine K1 (zp rfl (mv (K7 (K2 (zAk rfl rfl ?_)))));rw [hz];refine K7 (K3 (K3 (K3 (K3 (K2 (zAB rfl (pc0 rfl (ag (rS 4194788 ?_)))))))));refine wcf rfl (zA ?_);rcases (show (cutAt 47 (zS l)).2.2=false\/((cutAt 47 (zS l)).2.2=true/\zAb (cutAt 47 (zS l)).2.1=false)\/((cutAt 47 (zS l)).2.2=true/\zAb (cutAt 47 (zS l)).2.1=true/\((cutAt 47 (zS l)).2.1==[48])=true)\/((cutAt 47 (zS l)).2.2=true/\zAb (cutAt 47 (zS l)).2.1=true/\((cutAt 47 (zS l)).2.1==[48])=false/\((cutAt 47 (zS l)).2.1==[49])=true)\/((cutAt 47 (zS l)).2.2=true/\zAb (cutAt 47 (zS l)).2.1=true/\((cutAt 47 (zS l)).2.1==[48])=false/\((cutAt 47 (zS l)).2.1==[49])=false) from by cases (cutAt 47 (zS l)).2.2<;>cases zAb (cutAt 47 (zS l)).2.1<;>cases ((cutAt 47 (zS l)).2.1==[48])<;>cases ((cutAt 47 (zS l)).2.1==[49])<;>simp) with L | ⟨L,hq⟩ | ⟨L,hq,Z⟩ | ⟨L,hq,Z,aj⟩ | ⟨L,hq,Z,aj⟩
   . have J:((cutAt 47 (zS l)).2.2&&(!zAb (cutAt 47 (zS l)).2.1 || (cutAt 47 (zS l)).2.1==[48] || (cutAt 47 (zS l)).2.1==[49]))=false:=by rw [L];rfl
     refine K6 (mv ?_)
     try rw [L]
     refine mv (K3 (K3 (K3 (K3 (K3 (K3 (K3 (K3 (K3 (K3 (K3 (pc0 rfl (ag (rl ?_))))))))))))));refine zK (K5 [2,5,6,7,8,37] ?_);refine wcf rfl (zA ?_);rcases (show 1000<(cutAt 47 (zS l)).1.length\/(¬ 1000<(cutAt 47 (zS l)).1.length/\1000<(cutAt 47 (zS l)).2.1.length)\/(¬ 1000<(cutAt 47 (zS l)).1.length/\¬ 1000<(cutAt 47 (zS l)).2.1.length) from by omega) with k1 | ⟨k1,k2⟩ | ⟨k1,k2⟩
     . have he:zk l=(0,3):=by rw [zBB,hA,ct dE,J,ct dE,cD (.inl k1)]
       refine rI (K1 (zAD zAM rfl (K1 (zC (v := .bool true) rfl rfl (sB (cZ oM)) (mv (K3 (K3 (K3 (pc0 rfl (ag (rs [2,5,6,7,8,53] ?_)))))))))));refine wct rfl (rj (K1 (zV (cs := #[.bool false,.slice none 0 0,.slice none 0 0]) kR (K1 (zO rfl IsNum.zero (Cell3.of A rfl) fun _ w9 G z => ?_)))));replace E0:=E0.upd G F;obtain ⟨H,C,D,z⟩:=z;refine ag (rM 12 ?_);refine zE (zd (zU (zM ?_)));exact ⟨rfl,_,za rfl rfl rfl rfl zAI C D,E0,_,by rw [he];rfl,by rw [he];exact z⟩
     . have he:zk l=(0,3):=by rw [zBB,hA,ct dE,J,ct dE,cD (.inr k2)]
       refine rI (K1 (zAD zAM rfl (K1 (zC (v := .bool false) rfl rfl (sB (cU oM)) (mv (K7 (K2 (zAD zAM rfl (K2 (zC (v := .bool true) rfl rfl (sB (cZ oM)) (pc0 rfl (ag (rs [2,5,6,7,8,53] ?_)))))))))))));refine wct rfl (rj (K1 (zV (cs := #[.bool false,.slice none 0 0,.slice none 0 0]) kR (K1 (zO rfl IsNum.zero (Cell3.of A rfl) fun _ w9 G z => ?_)))));replace E0:=E0.upd G F;obtain ⟨H,C,D,z⟩:=z;refine ag (rM 12 ?_);refine zE (zd (zU (zM ?_)));exact ⟨rfl,_,za rfl rfl rfl rfl zAI C D,E0,_,by rw [he];rfl,by rw [he];exact z⟩
     . have I:¬ (1000<(cutAt 47 (zS l)).1.length\/1000<(cutAt 47 (zS l)).2.1.length):=by omega
       have he:zk l=(qOf (below l) (natS (cutAt 47 (zS l)).1) 1,0):=by rw [zBB,hA,ct dE,J,ct dE,ct I,L];rfl
       refine rI (K1 (zAD zAM rfl (K1 (zC (v := .bool false) rfl rfl (sB (cU oM)) (mv (K7 (K2 (zAD zAM rfl (K2 (zC (v := .bool false) rfl rfl (sB (cU oM)) (pc0 rfl (ag (rs [2,5,6,7,8,53] ?_)))))))))))));refine wcf rfl (rj (mv ?_))
       try rw [L]
       refine K1 (zp rfl (ag (rm [2,5,6,7,63] ?_)));refine wct rfl (rJ (mv (K1 (j1 E0 A.ext yB (zJw oM (zBP U)) fun ap w2 E0 A ah=>K1 (j2 E0 A.ext ah.ext yB (zHG _) fun v69 w2 E0 A ah N69=>K1 (j1 E0 A.ext yB (zCQ ah N69 dE (zFo oM (zBP U)) zMw) fun v70 w2 E0 A N70=>K1 (zO rfl N70 (Cell3.of A rfl) fun _ w9 G z => ?_)))))));replace E0:=E0.upd G F;obtain ⟨H,C,D,z⟩:=z;refine ag (rM 12 ?_);refine zE (zd (zU (zM ?_)));exact ⟨rfl,_,za rfl rfl rfl rfl zAI C D,E0,_,by rw [he];rfl,by rw [he];exact z⟩
   . have he:zk l=(0,6):=by rw [zBB,hA,ct dE,cD (by rw [L];simp [hq])]
     refine K6 (mv ?_)
     try rw [L]
     refine mv (K7 (K2 (j1 E0 A.ext yB (zEP oM) fun vi w2 E0 A Q => ?_)));subst Q;rw [hq];refine K2 (zp rfl (K7 (K3 (K3 (K2 (zAB rfl (K7 (K3 (K3 (K2 (zAB rfl (pc0 rfl (ag (rS 137438953956 ?_))))))))))))));refine wct rfl (rj (K1 (zV (cs := #[.bool false,.slice none 0 0,.slice none 0 0]) kR (K1 (zO rfl IsNum.zero (Cell3.of A rfl) fun _ w9 G z => ?_)))));replace E0:=E0.upd G F;obtain ⟨H,C,D,z⟩:=z;refine ag (rM 12 ?_);refine zE (zd (zU (zM ?_)));exact ⟨rfl,_,za rfl rfl rfl rfl zAI C D,E0,_,by rw [he];rfl,by rw [he];exact z⟩
   . have he:zk l=(0,6):=by rw [zBB,hA,ct dE,cD (by rw [L];simp [hq,Z])]
     refine K6 (mv ?_)
     try rw [L]
     refine mv (K7 (K2 (j1 E0 A.ext yB (zEP oM) fun vi w2 E0 A Q => ?_)));subst Q;rw [hq];refine K2 (zp rfl (K7 (K7 (K2 (zAk rfl rfl ?_)))));rw [Z];refine K2 (zAB rfl (K7 (K3 (K3 (K2 (zAB rfl (pc0 rfl (ag (rS 137438953956 ?_)))))))));refine wct rfl (rj (K1 (zV (cs := #[.bool false,.slice none 0 0,.slice none 0 0]) kR (K1 (zO rfl IsNum.zero (Cell3.of A rfl) fun _ w9 G z => ?_)))));replace E0:=E0.upd G F;obtain ⟨H,C,D,z⟩:=z;refine ag (rM 12 ?_);refine zE (zd (zU (zM ?_)));exact ⟨rfl,_,za rfl rfl rfl rfl zAI C D,E0,_,by rw [he];rfl,by rw [he];exact z⟩
   . have he:zk l=(0,6):=by rw [zBB,hA,ct dE,cD (by rw [L];simp [hq,Z,aj])]
     refine K6 (mv ?_)
     try rw [L]
     refine mv (K7 (K2 (j1 E0 A.ext yB (zEP oM) fun vi w2 E0 A Q => ?_)));subst Q;rw [hq];refine K2 (zp rfl (K7 (K7 (K2 (zAk rfl rfl ?_)))));rw [Z];refine K2 (zAB rfl (K7 (K7 (K2 (zAk rfl rfl ?_)))));rw [aj];refine K2 (zAB rfl (pc0 rfl (ag (rS 137438953956 ?_))));refine wct rfl (rj (K1 (zV (cs := #[.bool false,.slice none 0 0,.slice none 0 0]) kR (K1 (zO rfl IsNum.zero (Cell3.of A rfl) fun _ w9 G z => ?_)))));replace E0:=E0.upd G F;obtain ⟨H,C,D,z⟩:=z;refine ag (rM 12 ?_);refine zE (zd (zU (zM ?_)));exact ⟨rfl,_,za rfl rfl rfl rfl zAI C D,E0,_,by rw [he];rfl,by rw [he];exact z⟩
   . have J:((cutAt 47 (zS l)).2.2&&(!zAb (cutAt 47 (zS l)).2.1 || (cutAt 47 (zS l)).2.1==[48] || (cutAt 47 (zS l)).2.1==[49]))=false:=by rw [L,hq,Z,aj];rfl
     have aq:natS (cutAt 47 (zS l)).1≠0:=(zFZ U (by cases hz:((cutAt 47 (zS l)).1==[48])<;>simp_all)).1;refine K6 (mv ?_)
     try rw [L]
     refine mv (K7 (K2 (j1 E0 A.ext yB (zEP oM) fun vi w2 E0 A Q => ?_)));subst Q;rw [hq];refine K2 (zp rfl (K7 (K7 (K2 (zAk rfl rfl ?_)))));rw [Z];refine K2 (zAB rfl (K7 (K7 (K2 (zAk rfl rfl ?_)))));rw [aj];refine K2 (zAB rfl (pc0 rfl (ag (rS 137438953956 ?_))));refine wcf rfl (zA ?_);rcases (show 1000<(cutAt 47 (zS l)).1.length\/(¬ 1000<(cutAt 47 (zS l)).1.length/\1000<(cutAt 47 (zS l)).2.1.length)\/(¬ 1000<(cutAt 47 (zS l)).1.length/\¬ 1000<(cutAt 47 (zS l)).2.1.length) from by omega) with k1 | ⟨k1,k2⟩ | ⟨k1,k2⟩
     . have he:zk l=(0,3):=by rw [zBB,hA,ct dE,J,ct dE,cD (.inl k1)]
       refine rI (K1 (zAD zAM rfl (K1 (zC (v := .bool true) rfl rfl (sB (cZ oM)) (mv (K3 (K3 (K3 (pc0 rfl (ag (rs [2,5,6,7,8,53] ?_)))))))))));refine wct rfl (rj (K1 (zV (cs := #[.bool false,.slice none 0 0,.slice none 0 0]) kR (K1 (zO rfl IsNum.zero (Cell3.of A rfl) fun _ w9 G z => ?_)))));replace E0:=E0.upd G F;obtain ⟨H,C,D,z⟩:=z;refine ag (rM 12 ?_);refine zE (zd (zU (zM ?_)));exact ⟨rfl,_,za rfl rfl rfl rfl zAI C D,E0,_,by rw [he];rfl,by rw [he];exact z⟩
     . have he:zk l=(0,3):=by rw [zBB,hA,ct dE,J,ct dE,cD (.inr k2)]
       refine rI (K1 (zAD zAM rfl (K1 (zC (v := .bool false) rfl rfl (sB (cU oM)) (mv (K7 (K2 (zAD zAM rfl (K2 (zC (v := .bool true) rfl rfl (sB (cZ oM)) (pc0 rfl (ag (rs [2,5,6,7,8,53] ?_)))))))))))));refine wct rfl (rj (K1 (zV (cs := #[.bool false,.slice none 0 0,.slice none 0 0]) kR (K1 (zO rfl IsNum.zero (Cell3.of A rfl) fun _ w9 G z => ?_)))));replace E0:=E0.upd G F;obtain ⟨H,C,D,z⟩:=z;refine ag (rM 12 ?_);refine zE (zd (zU (zM ?_)));exact ⟨rfl,_,za rfl rfl rfl rfl zAI C D,E0,_,by rw [he];rfl,by rw [he];exact z⟩
     . have I:¬ (1000<(cutAt 47 (zS l)).1.length\/1000<(cutAt 47 (zS l)).2.1.length):=by omega
       refine rI (K1 (zAD zAM rfl (K1 (zC (v := .bool false) rfl rfl (sB (cU oM)) (mv (K7 (K2 (zAD zAM rfl (K2 (zC (v := .bool false) rfl rfl (sB (cU oM)) (pc0 rfl (ag (rs [2,5,6,7,8,53] ?_)))))))))))));refine wcf rfl (rj (mv ?_))
       try rw [L]
       refine K1 (zp rfl (ag (rm [2,5,6,7,63] ?_)));refine wcf rfl (zw (zN (zK (rJ (K1 (j1 E0 A.ext yB (zJw oM (zBP U)) fun ay w2 E0 A ab=>mv (K1 (j2 E0 A.ext ab.ext yB (zJw oM (zBP hq)) fun v74 w2 E0 A ab N74=>ag (ag (rM 1572 ?_))))))))));refine zA (rJ (mv (K1 (j3 E0 A.ext ab.ext N74.ext yB (zFO ab N74 (zFo oM (zBP U)) (zFo oM (zBP hq))) fun v77 w2 E0 A ab N74 N77=>K1 (j3 E0 A.ext ab.ext N74.ext yB (zCZ N77) fun vi w2 E0 A ab N74 Q => ?_)))));subst Q;refine K1 (zp rfl (rm [2,5,9,10,79] ?_));refine K0 rfl ?_ ?_<;>intro hc
       . have hg:Nat.gcd (natS (cutAt 47 (zS l)).1) (natS (cutAt 47 (zS l)).2.1)≠1:=by simpa using hc
         have he:zk l=(0,6):=by rw [zBB,hA,ct dE,J,ct dE,ct I,L,ct dE,cD hg]
         refine rj (K1 (zV (cs := #[.bool false,.slice none 0 0,.slice none 0 0]) kR (K1 (zO rfl IsNum.zero (Cell3.of A rfl) fun _ w9 G z => ?_))));replace E0:=E0.upd G F;obtain ⟨H,C,D,z⟩:=z;refine ag (rM 12 ?_);refine zE (zU (zM ?_));exact ⟨rfl,_,za rfl rfl rfl rfl zAI C D,E0,_,by rw [he];rfl,by rw [he];exact z⟩
       . have hg:Nat.gcd (natS (cutAt 47 (zS l)).1) (natS (cutAt 47 (zS l)).2.1)=1:=by simpa using hc
         have he:zk l=(qOf (below l) (natS (cutAt 47 (zS l)).1) (natS (cutAt 47 (zS l)).2.1),0):=by rw [zBB,hA,ct dE,J,ct dE,ct I,L,ct dE,ct (fun h=>h hg)]
         refine sk (rJ (mv (mv ?_)));have M:=numOf_ratio (s:=below l) ab N74 aq (zFZ hq Z).1 ((zFZ hq Z).2 aj) hg;obtain ⟨p1,ar,k1,rfl,-⟩:=ab;obtain ⟨p2,au,k2,rfl,-⟩:=N74;refine K1 (zV (cs := #[.bool (below l),.slice p1 ar.length k1,.slice p2 au.length k2]) kR (K1 (zO rfl M (Cell3.of A rfl) fun _ w9 G z => ?_)));replace E0:=E0.upd G F;obtain ⟨H,C,D,z⟩:=z;refine ag (rM 12 ?_);refine zE (zM ?_);exact ⟨rfl,_,za rfl rfl rfl rfl zAI C D,E0,_,by rw [he];rfl,by rw [he];exact z⟩
 . have hA:(!zAb (cutAt 47 (zS l)).1 || ((cutAt 47 (zS l)).1==[48]&&(below l || (cutAt 47 (zS l)).2.2)))=true:=by rw [U,hz,V];simp
   have he:zk l=(0,6):=by rw [zBB,hA,cD rfl]
   refine rI (K1 (j1 E0 A.ext yB (zEP oM) fun vi w2 E0 A Q => ?_));subst Q;rw [U];refine K1 (zp rfl (mv (K7 (K2 (zAk rfl rfl ?_)))));rw [hz];refine K7 (K7 ?_);rw [V];refine K7 (K3 (K2 (zAB rfl (K2 (zAB rfl (pc0 rfl (ag (rS 4194788 ?_))))))));refine wct rfl (rj (K1 (zV (cs := #[.bool false,.slice none 0 0,.slice none 0 0]) kR (K1 (zO rfl IsNum.zero (Cell3.of A rfl) fun _ w9 G z => ?_)))));replace E0:=E0.upd G F;obtain ⟨H,C,D,z⟩:=z;refine ag (rM 12 ?_);refine zE (zd (zU (zM ?_)));exact ⟨rfl,_,za rfl rfl rfl rfl zAI C D,E0,_,by rw [he];rfl,by rw [he];exact z⟩
 . have hA:(!zAb (cutAt 47 (zS l)).1 || ((cutAt 47 (zS l)).1==[48]&&(below l || (cutAt 47 (zS l)).2.2)))=true:=by rw [U,hz,V,ht];simp
   have he:zk l=(0,6):=by rw [zBB,hA,cD rfl]
   refine rI (K1 (j1 E0 A.ext yB (zEP oM) fun vi w2 E0 A Q => ?_));subst Q;rw [U];refine K1 (zp rfl (mv (K7 (K2 (zAk rfl rfl ?_)))));rw [hz];refine K7 (K7 ?_);rw [V];refine K7 (K7 ?_);rw [ht];refine K2 (zAB rfl (K2 (zAB rfl (pc0 rfl (ag (rS 4194788 ?_))))));refine wct rfl (rj (K1 (zV (cs := #[.bool false,.slice none 0 0,.slice none 0 0]) kR (K1 (zO rfl IsNum.zero (Cell3.of A rfl) fun _ w9 G z => ?_)))));replace E0:=E0.upd G F;obtain ⟨H,C,D,z⟩:=z;refine ag (rM 12 ?_);refine zE (zd (zU (zM ?_)));exact ⟨rfl,_,za rfl rfl rfl rfl zAI C D,E0,_,by rw [he];rfl,by rw [he];exact z⟩
 . have hA:(!zAb (cutAt 47 (zS l)).1 || ((cutAt 47 (zS l)).1==[48]&&(below l || (cutAt 47 (zS l)).2.2)))=false:=by rw [U,hz,V,ht];simp
   refine rI (K1 (j1 E0 A.ext yB (zEP oM) fun vi w2 E0 A Q => ?_));subst Q;rw [U];refine K1 (zp rfl (mv (K7 (K2 (zAk rfl rfl ?_)))));rw [hz];refine K7 (K7 ?_);rw [V];refine K7 (K7 ?_);rw [ht];refine K2 (zAB rfl (K2 (zAB rfl (pc0 rfl (ag (rS 4194788 ?_))))));refine wcf rfl (zA ?_);have L:=ht
   . have J:((cutAt 47 (zS l)).2.2&&(!zAb (cutAt 47 (zS l)).2.1 || (cutAt 47 (zS l)).2.1==[48] || (cutAt 47 (zS l)).2.1==[49]))=false:=by rw [L];rfl
     refine K6 (mv ?_)
     try rw [L]
     refine mv (K3 (K3 (K3 (K3 (K3 (K3 (K3 (K3 (K3 (K3 (K3 (pc0 rfl (ag (rl ?_))))))))))))));refine zK (K5 [2,5,6,7,8,37] ?_);refine wcf rfl (zA ?_);rcases (show 1000<(cutAt 47 (zS l)).1.length\/(¬ 1000<(cutAt 47 (zS l)).1.length/\1000<(cutAt 47 (zS l)).2.1.length)\/(¬ 1000<(cutAt 47 (zS l)).1.length/\¬ 1000<(cutAt 47 (zS l)).2.1.length) from by omega) with k1 | ⟨k1,k2⟩ | ⟨k1,k2⟩
     . have he:zk l=(0,3):=by rw [zBB,hA,ct dE,J,ct dE,cD (.inl k1)]
       refine rI (K1 (zAD zAM rfl (K1 (zC (v := .bool true) rfl rfl (sB (cZ oM)) (mv (K3 (K3 (K3 (pc0 rfl (ag (rs [2,5,6,7,8,53] ?_)))))))))));refine wct rfl (rj (K1 (zV (cs := #[.bool false,.slice none 0 0,.slice none 0 0]) kR (K1 (zO rfl IsNum.zero (Cell3.of A rfl) fun _ w9 G z => ?_)))));replace E0:=E0.upd G F;obtain ⟨H,C,D,z⟩:=z;refine ag (rM 12 ?_);refine zE (zd (zU (zM ?_)));exact ⟨rfl,_,za rfl rfl rfl rfl zAI C D,E0,_,by rw [he];rfl,by rw [he];exact z⟩
     . have he:zk l=(0,3):=by rw [zBB,hA,ct dE,J,ct dE,cD (.inr k2)]
       refine rI (K1 (zAD zAM rfl (K1 (zC (v := .bool false) rfl rfl (sB (cU oM)) (mv (K7 (K2 (zAD zAM rfl (K2 (zC (v := .bool true) rfl rfl (sB (cZ oM)) (pc0 rfl (ag (rs [2,5,6,7,8,53] ?_)))))))))))));refine wct rfl (rj (K1 (zV (cs := #[.bool false,.slice none 0 0,.slice none 0 0]) kR (K1 (zO rfl IsNum.zero (Cell3.of A rfl) fun _ w9 G z => ?_)))));replace E0:=E0.upd G F;obtain ⟨H,C,D,z⟩:=z;refine ag (rM 12 ?_);refine zE (zd (zU (zM ?_)));exact ⟨rfl,_,za rfl rfl rfl rfl zAI C D,E0,_,by rw [he];rfl,by rw [he];exact z⟩
     . have I:¬ (1000<(cutAt 47 (zS l)).1.length\/1000<(cutAt 47 (zS l)).2.1.length):=by omega
       have he:zk l=(qOf (below l) (natS (cutAt 47 (zS l)).1) 1,0):=by rw [zBB,hA,ct dE,J,ct dE,ct I,L];rfl
       refine rI (K1 (zAD zAM rfl (K1 (zC (v := .bool false) rfl rfl (sB (cU oM)) (mv (K7 (K2 (zAD zAM rfl (K2 (zC (v := .bool false) rfl rfl (sB (cU oM)) (pc0 rfl (ag (rs [2,5,6,7,8,53] ?_)))))))))))));refine wcf rfl (rj (mv ?_))
       try rw [L]
       refine K1 (zp rfl (ag (rm [2,5,6,7,63] ?_)));refine wct rfl (rJ (mv (K1 (j1 E0 A.ext yB (zJw oM (zBP U)) fun ap w2 E0 A ah=>K1 (j2 E0 A.ext ah.ext yB (zHG _) fun v69 w2 E0 A ah N69=>K1 (j1 E0 A.ext yB (zCQ ah N69 dE (zFo oM (zBP U)) zMw) fun v70 w2 E0 A N70=>K1 (zO rfl N70 (Cell3.of A rfl) fun _ w9 G z => ?_)))))));replace E0:=E0.upd G F;obtain ⟨H,C,D,z⟩:=z;refine ag (rM 12 ?_);refine zE (zd (zU (zM ?_)));exact ⟨rfl,_,za rfl rfl rfl rfl zAI C D,E0,_,by rw [he,V];rfl,by rw [he,V];exact z⟩
end Go.Proofs.YtjiendlfobjanaaGreatDoor
namespace Go.Proofs.YtjiendlfobjanaaGreatDoor
open Go Go.RowKit Go.Proofs Tryz
variable {K:Value->World->Prop} {T ty:TypeId} {af:Array Edge} {b b2 c i k m n o:Nat} {cs:List Value} {g:Option (Nat×Bool)} {l:List Rat} {pos:String} {r:Option Nat} {v:Value} {w w' w0:World} {σ:Operand->Value}
structure BandT where
 lo:List UInt8
 hi:List UInt8
 least:List UInt8
 most:List UInt8
def zMl (a b c d:Rat):Option Bool:=if a<0 then some true else (rcmp a b).bind fun z=>if 0<z then some true else if c<0 then some true else (rcmp c d).map fun y=>decide (0<y)
def zHE:List BandT->List Band->Option (List Band×Int)
 | [],h=>some (h,0)
 | t :: l,h =>
  if (zk t.lo).2≠0 then some ([],(zk t.lo).2) else if (zk t.hi).2≠0 then some ([],(zk t.hi).2) else
  if (zk t.least).2≠0 then some ([],(zk t.least).2) else if (zk t.most).2≠0 then some ([],(zk t.most).2) else
  (zMl (zk t.lo).1 (zk t.hi).1 (zk t.least).1 (zk t.most).1).bind fun s=>if s=true then some ([],7) else
   zHE l (h++[⟨(zk t.lo).1,(zk t.hi).1,(zk t.least).1,(zk t.most).1⟩])
def zKC (m:List BandT):Option (List Band×Int):=if m.length=0\/6<m.length then some ([],7) else zHE m []
def chunk (n:Nat) (cs:List Value) (i:Nat):List Value:=(cs.drop (n*i)).take n
theorem zGH {s:List Value} (z:s.length=n) (F:n*m+n<=cs.length):chunk n (zBr cs (n*m) s) i=if i=m then s else chunk n cs i:=by
 rw [zLL _ _ _ oM];unfold chunk;have A:(cs.take (n*m)).length=n*m:=by simp;omega
 by_cases e:i=m
 . subst e;rw [cD rfl,fA oM,eJ oM,gu,eV oM,dF oM]
 . rw [ct e];rcases Nat.lt_or_gt_of_ne e with h | h
   . have C:n*i+n<=n*m:=by have:=dy n (show i+1<=m from h);rw [dV] at this;omega
     rw [fA oM,eV (by simp;omega),gy,gM,dT oM]
   . have C:n*m+n<=n*i:=by have:=dy n (show m+1<=i from h);rw [dV] at this;omega
     obtain ⟨k,D⟩:∃ k,n*i=n*m+n+k:=⟨n*i-(n*m+n),oM⟩;rw [D,show n*m+n+k=n*m+(n+k) by omega,iI,A,eJ (l:=cs.take (n*m)) oM,gu,show n*m+(n+k)-n*m=n+k by omega,iI,z,eJ (l:=s) oM,gu,show n+k-n=k by omega,List.drop_drop,show n*m+n+k=n*m+(n+k) by omega]
theorem chunk_app {a b:List Value} (h:n*i+n<=a.length):chunk n (a++b) i=chunk n a i:=by
 unfold chunk;rw [fA oM,eV (by simp;omega)]
theorem chunk_take {a:List Value} (h:n*i+n<=m) (s:m<=a.length):chunk n (a.take m) i=chunk n a i:=by
 unfold chunk;rw [gy,gM,dT oM]
def zMV (w:World) (cs:List Value) (o:Nat) (A:List Band):Prop:=∀ i B,A[i]? = some B->BandC w (chunk 12 (cs.drop o) i) B
def AccBd (sz:Nat) (w:World) (v:Value) (A:List Band):Prop :=
 ∃ p c,v = .slice p A.length c/\A.length<=c/\((A=[]/\p=none/\c=0)\/∃ b cs,p=some ⟨b,0,none⟩/\sz<=b/\Blk w b 144 cs/\cs.length=12*c/\zMV w cs 0 A)
theorem AccBd.nil {sz:Nat}:AccBd sz w (.slice none 0 0) []:=⟨none,0,rfl,cX _,.inl ⟨rfl,rfl,rfl⟩⟩
theorem AccBd.ext {sz:Nat} {A:List Band} (h:AccBd sz w v A) (z:Ext w w'):AccBd sz w' v A:=by
 obtain ⟨p,c,C,D,s⟩:=h;refine ⟨p,c,C,D,?_⟩;rcases s with s | ⟨b,cs,F,G,H,I,J⟩
 . exact .inl s
 . exact .inr ⟨b,cs,F,G,H.ext z,I,fun i B L=>(J i B L).ext z⟩
theorem AccBd.upd {sz:Nat} {A:List Band} (h:AccBd sz w v A) (C:Upd b w w') (D:Blk w b T cs) (G:T≠164) (H:T≠144):AccBd sz w' v A:=by
 obtain ⟨p,c,I,J,s⟩:=h;refine ⟨p,c,I,J,?_⟩;rcases s with s | ⟨L,z,M,Q,F,U,V⟩
 . exact .inl s
 . exact .inr ⟨L,z,M,Q,F.upd C (F.neT D (eH H)),U,fun i B Z=>(V i B Z).updT C D G⟩
def zIX (w:World) (v:Value) (A:List Band):Prop:=∃ p c,v = .slice p A.length c/\(A=[]\/∃ b cs,p=some ⟨b,0,none⟩/\Blk w b 144 cs/\12*A.length<=cs.length/\zMV w cs 0 A)
theorem zIX.ext {A:List Band} (h:zIX w v A) (z:Ext w w'):zIX w' v A:=by
 obtain ⟨p,c,C,s⟩:=h;refine ⟨p,c,C,?_⟩;rcases s with s | ⟨b,cs,D,F,G,H⟩
 . exact .inl s
 . exact .inr ⟨b,cs,D,F.ext z,G,fun i B I=>(H i B I).ext z⟩
theorem AccBd.bands {sz:Nat} {A:List Band} (h:AccBd sz w v A):zIX w v A:=by
 obtain ⟨p,c,C,H,D⟩:=h;refine ⟨p,c,C,?_⟩;rcases D with ⟨s,F,z⟩ | ⟨b,cs,s,F,z,I,G⟩
 . exact .inl s
 . exact .inr ⟨b,cs,s,z,oM,G⟩
theorem zIU:prog.underlying 139=some (.slice 144):=kR
theorem zNb:zBH prog 139 144 12:=by unfold zBH;exact ⟨kR,kR⟩
def bandZ:List Value:=[.bool false,.slice none 0 0,.slice none 0 0,.bool false,.slice none 0 0,.slice none 0 0,.bool false,.slice none 0 0,.slice none 0 0,.bool false,.slice none 0 0,.slice none 0 0]
theorem zSq:(prog.info? 144).map (fun i=>(i.zero,i.size,i.bytes))=some (some (.agg bandZ.toArray),12,224):=kR
theorem info144':(prog.info? 144).map (fun i=>(i.zero,i.size))=some (some (.agg bandZ.toArray),12):=kR
def AppBd (sz:Nat) (w w':World):Prop:=Ext w w'\/∃ b cs,sz<=b/\Blk w b 144 cs/\Upd b w w'
theorem AppBd.ext {sz:Nat} (h:AppBd sz w w') (A:w0.heap.size<=sz) (s:Ext w0 w):Ext w0 w':=by
 rcases h with h | ⟨b,cs,C,D,z⟩
 . exact s.trans h
 . exact s.upd z oM
theorem runs_append_band {d:Option Tmp} {x y:Operand} {sz:Nat} {A:List Band} {q:Band} {u:List Value}
 (hx:AccBd sz w (σ x) A) (hy:σ y = .slice (some ⟨b2,0,none⟩) 1 1) (I:Blk w b2 144 u) (s:u.length=12) (Q:BandC w u q) (hA:A.length<8192) (ab:sz<=w.heap.size)
 (hk:∀ v w',AppBd sz w w'->AccBd sz w' v (A++[q])->K v w') :
 Runs prog r ⟨d,.call { callee := .builtin .append,args := #[x,y],argTypes := #[139,139] },ty,pos,af,g⟩ σ w K:=by
 obtain ⟨p,c,h1,h2,h3⟩:=hx;have hok:u.all zDT=true:=Q.ok s;have D:∀ (z:List Value) (w':World),(∀ i B,A[i]? = some B->BandC w' (chunk 12 z i) B)->chunk 12 z A.length=u->BandC w' u q->∀ i B,(A++[q])[i]? = some B->BandC w' (chunk 12 (z.drop 0) i) B:=fun z w' g1 g2 g3 i B h=>by
  rw [eT];by_cases L:i<A.length
  . rw [eS L] at h;exact g1 i B h
  . rw [fJ oM] at h;have:i=A.length:=by
     have:=(dY.1 h).1;simp at this;omega
    subst this;simp at h;subst h;rw [g2];exact g3
 by_cases hc:A.length+1<=c
 . rcases h3 with ⟨F,H,C⟩ | ⟨b,cs,F,H,C,e4,U⟩
   . omega
   . subst F;refine zAz (n:=12) zIU zIU zSq h1 hy C (Cells.blk I) oM hc oM hok fun w' V hN=>hk _ w' (.inr ⟨b,cs,H,C,V⟩) ?_;rw [dW,dm A.length 12] at hN;refine ⟨_,c,sM,by simpa using hc,.inr ⟨b,_,rfl,H,hN,by rw [zAu];exact e4,D _ _ (fun i B h => ?_) ?_ (Q.updT V C dE)⟩⟩
     . have L:i<A.length:=(dY.1 h).1;rw [zGH s oM,ct oM];have:=U i B h;rw [eT] at this;exact this.updT V C dE
     . rw [zGH s oM,cD rfl]
 . have an:=zAc (A.length+1) c;have hold:∃ old,Cells w p 144 old/\old.length=A.length*12/\∀ i B,A[i]? = some B->BandC w (chunk 12 old i) B:=by
    rcases h3 with ⟨F,H,C⟩ | ⟨b,cs,F,H,C,e4,U⟩
    . subst F;exact ⟨[],.inl rfl,rfl,fun i B h=>by simp at h⟩
    . refine ⟨cs.take (12*A.length),.inr ⟨b,0,cs,F,C,by simp [dm]⟩,by simp;omega,fun i B h => ?_⟩;have L:i<A.length:=(dY.1 h).1;have:=U i B h;rw [eT] at this;rw [chunk_take oM oM];exact this
   obtain ⟨old,o1,Z,o3⟩:=hold;refine zAW zIU zIU zSq rfl dE h1 hy o1 Z (Cells.blk I) oM oM oM fun w' rest c' g1 hE h g2 _=>hk _ w' (.inl hE) ?_;have ad:rest.length=(c'-(A.length+1))*12:=by rw [g2];simp [Builtin.zeroCells,Value.cells,bandZ]
   refine ⟨_,c',sM,by simpa using g1,.inr ⟨w.heap.size,_,rfl,ab,h,by simp [Z,s,ad];omega,D _ _ (fun i B J => ?_) ?_ (Q.ext hE)⟩⟩
   . have L:i<A.length:=(dY.1 J).1;rw [dU,chunk_app oM];exact (o3 i B J).ext hE
   . unfold chunk;rw [dU,iI,eJ oM,gu,Z,show 12*A.length-A.length*12=0 by omega,eT,eV oM,dF oM]
theorem zIL {d:Option Tmp} {x:Operand} {A:List Band} {B:Band}
 (s:σ x = .pointer (some ⟨b,12*i,none⟩)) (z:Blk w b 144 cs) (G:12*A.length<=cs.length) (C:zMV w cs 0 A) (h:A[i]? = some B) (D:∀ v,zNn w v B->K v w):Runs prog r ⟨d,.load 144 x,ty,pos,af,g⟩ σ w K:=by
 have F:i<A.length:=(dY.1 h).1;refine zh zPW s z oM (D _ ⟨(cs.drop (12*i)).take 12,rfl,by simp;omega,?_⟩);have:=C i B h;rw [eT] at this;exact this
def XBlk (w:World) (b:Nat) (l:List Rat):Prop:=∃ cs,Blk w b 258 cs/\cs.length=12/\l.length=4/\∀ i,i<4->IsNum w (.agg (chunk 3 cs i).toArray) (l.getD i 0)
theorem XBlk.ext (h:XBlk w b l) (s:Ext w w'):XBlk w' b l:=by
 obtain ⟨cs,z,A,C,D⟩:=h;exact ⟨cs,z.ext s,A,C,fun i F=>(D i F).ext s⟩
theorem XBlk.updT (h:XBlk w b l) (s:Upd c w w') (z:Blk w c T cs) (C:T≠258) (D:T≠164):XBlk w' b l:=by
 obtain ⟨ds,A,F,G,H⟩:=h;exact ⟨ds,A.upd s (A.neT z (eH C)),F,G,fun i I=>(H i I).updT s z D⟩
theorem zCJ:ArrOf prog 258 4 37 3:=by unfold ArrOf;exact ⟨kR,kR⟩
theorem zero258:(prog.info? 258).bind (·.zero)=some (.agg bandZ.toArray):=kR
theorem XBlk.zero (h:Blk w b 258 bandZ):XBlk w b [0,0,0,0]:=⟨_,h,rfl,rfl,fun i s=>by
 match i,s with
 | 0,_=>exact IsNum.zero
 | 1,_=>exact IsNum.zero
 | 2,_=>exact IsNum.zero
 | 3,_=>exact IsNum.zero⟩
section laws
variable {d:Option Tmp}
theorem runs_xstore {x y:Operand} {q:Rat} (F:σ x = .pointer (some ⟨b,o,none⟩)) (G:o=3*k) (A:IsNum w (σ y) q) (s:XBlk w b l) (V:k<4)
 (H:∀ v w',Upd b w w'->XBlk w' b (l.set k q)->K v w'):Runs prog r ⟨d,.store 37 x y,ty,pos,af,g⟩ σ w K:=by
 subst G;obtain ⟨cs,s,I,z,J⟩:=s;have hy0:=A;obtain ⟨n,Z,he,L,M⟩:=A;obtain ⟨p1,Q,c1,rfl,-⟩:=L;obtain ⟨p2,U,c2,rfl,-⟩:=M;refine zc zJV F s (by rw [he];rfl) oM dE (by rw [he];rfl) fun w' hU C=>H _ w' hU ?_;rw [he] at C hy0;refine ⟨_,C,by rw [zAu];exact I,by rw [ff];exact z,fun i D => ?_⟩;show IsNum w' (.agg (chunk 3 (zBr cs (3*k) [_,_,_]) i).toArray) _;rw [zGH (n:=3) rfl oM];by_cases h:i=k
 . subst h;rw [cD rfl,show (l.set i q).getD i 0=q from by simp [z,D]];exact hy0.upd hU s dE
 . rw [ct h,show (l.set k q).getD i 0=l.getD i 0 from by simp [fz (eH h)]];exact (J i D).upd hU s dE
theorem zAZ {x:Operand} (s:σ x = .pointer (some ⟨b,o,none⟩)) (z:o=3*k) (h:XBlk w b l) (A:k<4) (C:∀ v,IsNum w v (l.getD k 0)->K v w):Runs prog r ⟨d,.load 37 x,ty,pos,af,g⟩ σ w K:=by
 subst z;obtain ⟨cs,h,G,F,D⟩:=h;exact zh zAI s h oM (C _ (D k A))
end laws
def zLa (t:BandT):List Value:=[S t.lo,S t.hi,S t.least,S t.most]
def zLV (w:World) (v:Value) (m:List BandT):Prop:=∃ p c,v = .slice p m.length c/\(m=[]\/∃ b o cs,p=some ⟨b,o,none⟩/\Blk w b 54 cs/\o+4*m.length<=cs.length/\∀ i t,m[i]? = some t->(cs.drop (o+4*i)).take 4=zLa t)
theorem zLV.ext {m:List BandT} (h:zLV w v m) (z:Ext w w'):zLV w' v m:=by
 obtain ⟨p,c,A,s⟩:=h;refine ⟨p,c,A,?_⟩;rcases s with s | ⟨b,o,cs,C,D,F,G⟩
 . exact .inl s
 . exact .inr ⟨b,o,cs,C,D.ext z,F,G⟩
theorem zHg:zBH prog 41 54 4:=by unfold zBH;exact ⟨kR,kR⟩
theorem aggr54:Aggr prog 54 4:=by unfold Aggr;exact ⟨kR,kR⟩
theorem size54:(prog.info? 54).map (·.size)=some 4:=kR
theorem zero54:(prog.info? 54).bind (·.zero)=some (.agg #[S [],S [],S [],S []]):=kR
theorem fo54_0:zAG prog 54 0 0:=by unfold zAG;kernel_rfl
theorem fo54_1:zAG prog 54 1 1:=by unfold zAG;kernel_rfl
theorem fo54_2:zAG prog 54 2 2:=by unfold zAG;kernel_rfl
theorem fo54_3:zAG prog 54 3 3:=by unfold zAG;kernel_rfl
theorem zCz:Plain prog 52:=by unfold Plain;exact ⟨kR,kR⟩
def txt (t:BandT):List (List UInt8):=[t.lo,t.hi,t.least,t.most]
theorem txt_at (t:BandT) (h:k<4):(#[S t.lo,S t.hi,S t.least,S t.most]:Array Value)[k]? = some (S ((txt t).getD k [])):=by
 match k,h with
 | 0,_=>rfl
 | 1,_=>rfl
 | 2,_=>rfl
 | 3,_=>rfl
theorem bandsL_err {t:BandT} {l:List BandT} {A:List Band} {R:List Band×Int} (C:k<4) (s:∀ j,j<k->(zk ((txt t).getD j [])).2=0) (z:(zk ((txt t).getD k [])).2≠0) (h:zHE (t :: l) A=some R):R=([],(zk ((txt t).getD k [])).2):=by
 unfold zHE at h
 match k,C with
 | 0,_=>rw [cD (show (zk t.lo).2≠0 from z)] at h;exact (dj h).symm
 | 1,_ =>
  have a0:(zk t.lo).2=0:=s 0 oM;rw [ct (fun e=>e a0),cD (show (zk t.hi).2≠0 from z)] at h;exact (dj h).symm
 | 2,_ =>
  have a0:(zk t.lo).2=0:=s 0 oM;have a1:(zk t.hi).2=0:=s 1 oM;rw [ct (fun e=>e a0),ct (fun e=>e a1),cD (show (zk t.least).2≠0 from z)] at h;exact (dj h).symm
 | 3,_ =>
  have a0:(zk t.lo).2=0:=s 0 oM;have a1:(zk t.hi).2=0:=s 1 oM;have a2:(zk t.least).2=0:=s 2 oM;rw [ct (fun e=>e a0),ct (fun e=>e a1),ct (fun e=>e a2),cD (show (zk t.most).2≠0 from z)] at h;exact (dj h).symm
theorem bandsL_go {t:BandT} {l:List BandT} {A:List Band} {R:List Band×Int} (z:∀ j,j<4->(zk ((txt t).getD j [])).2=0) (h:zHE (t :: l) A=some R) :
 ∃ s,zMl (zk t.lo).1 (zk t.hi).1 (zk t.least).1 (zk t.most).1=some s/\(if s=true then some ([],7) else zHE l (A++[⟨(zk t.lo).1,(zk t.hi).1,(zk t.least).1,(zk t.most).1⟩]))=some R:=by
 have a0:(zk t.lo).2=0:=z 0 oM;have a1:(zk t.hi).2=0:=z 1 oM;have a2:(zk t.least).2=0:=z 2 oM;have a3:(zk t.most).2=0:=z 3 oM;unfold zHE at h;rw [ct (fun e=>e a0),ct (fun e=>e a1),ct (fun e=>e a2),ct (fun e=>e a3)] at h;exact bind_some h
theorem badBand_cases {a b c d:Rat} {s:Bool} (h:zMl a b c d=some s):(a<0/\s=true)\/(∃ z,¬ a<0/\rcmp a b=some z/\0<z/\s=true)\/(∃ z,¬ a<0/\rcmp a b=some z/\¬ 0<z/\c<0/\s=true) \/
 (∃ z y,¬ a<0/\rcmp a b=some z/\¬ 0<z/\¬ c<0/\rcmp c d=some y/\0<y/\s=true)\/(∃ z y,¬ a<0/\rcmp a b=some z/\¬ 0<z/\¬ c<0/\rcmp c d=some y/\¬ 0<y/\s=false):=by
 unfold zMl at h;split at h
 . next A=>cases h;exact .inl ⟨A,rfl⟩
 . next A =>
   obtain ⟨z,D,h⟩:=bind_some h;split at h
   . next C=>cases h;exact .inr (.inl ⟨z,A,D,C,rfl⟩)
   . next C =>
     split at h
     . next F=>cases h;exact .inr (.inr (.inl ⟨z,A,D,C,F,rfl⟩))
     . next F =>
       obtain ⟨y,H,h⟩:=map_some h;by_cases G:0<y
       . exact .inr (.inr (.inr (.inl ⟨z,y,A,D,C,F,H,G,by rw [<- h];exact cZ G⟩)))
       . exact .inr (.inr (.inr (.inr ⟨z,y,A,D,C,F,H,G,by rw [<- h];exact cU G⟩)))
theorem arr259:ArrOf prog 259 4 52 1:=by unfold ArrOf;exact ⟨kR,kR⟩
end Go.Proofs.YtjiendlfobjanaaGreatDoor
namespace Go.Proofs.YtjiendlfobjanaaGreatDoor
open Go Go.RowKit Go.Proofs Tryz
set_option maxRecDepth 10000
set_option maxHeartbeats 2000000
attribute [local irreducible] Runs WPE CallK Ret
variable {v:Value} {w:World}
theorem bands_ok {m:List BandT} {R:List Band×Int} (hm:zLV w v m) (aq:∀ (i:Nat) (t:BandT),m[i]? = some t->t.lo.length<1000000000/\t.hi.length<1000000000/\t.least.length<1000000000/\t.most.length<1000000000) (h:zKC m=some R):Ret prog 87 #[v] w (fun r w'=>∃ u,r = .tuple #[u,.int .i64 R.2]/\AccBd w.heap.size w' u R.1):=by
 obtain ⟨mp,mc,rfl,aI⟩:=hm;refine J0 92 func87 rfl (rj (ag (ag (rM 1 ?_))));refine zA (zA ?_);rcases (oM:m.length=0\/(m.length≠0/\6<m.length)\/(m.length≠0/\¬ 6<m.length)) with k1 | ⟨k1,k2⟩ | ⟨k1,k2⟩
 . unfold zKC at h;rw [cD (.inl k1)] at h;obtain rfl:=dj h;refine rI (K1 (zG zHg rfl ?_));refine K1 (zC (v := .bool true) rfl rfl (sB (by rw [k1];rfl)) ?_);refine mv (K3 (K3 (K3 (pc0 rfl (rs [0,19] ?_)))));refine wct rfl (rj (ag (ag (rM 12 ?_))));exact zE (zU (zM ⟨rfl,_,zv rfl rfl rfl,E0,_,rfl,AccBd.nil⟩))
 . unfold zKC at h;rw [cD (.inr k2)] at h;obtain rfl:=dj h;refine rI (K1 (zG zHg rfl (K1 (zC (v := .bool false) rfl rfl (sB (dk.2 oM)) (mv (K7 (K2 (zG zHg rfl (K2 (zC (v := .bool true) rfl rfl (sB (cZ oM)) (pc0 rfl (rs [0,19] ?_))))))))))));refine wct rfl (rj (ag (ag (rM 12 ?_))));exact zE (zU (zM ⟨rfl,_,zv rfl rfl rfl,E0,_,rfl,AccBd.nil⟩))
 . unfold zKC at h;rw [ct oM] at h;refine rI (K1 (zG zHg rfl (K1 (zC (v := .bool false) rfl rfl (sB (dk.2 oM)) (mv (K7 (K2 (zG zHg rfl (K2 (zC (v := .bool false) rfl rfl (sB (cU oM)) (pc0 rfl (rs [0,19] ?_))))))))))));refine wcf rfl (sk (rj (ag (rM 17 ?_))));refine zA (rJ (K1 (zG zHg rfl (mv (rM 7340048 ?_)))));refine zF (zX (X:=Nat) (fun i ρ w'=>∃ va A,Keep ρ [(4,va),(20,.slice mp m.length mc),(21,.int .i64 (m.length:Int)),(22,.int .i64 (i:Int))]/\i<=m.length/\Ext w w'/\AccBd w.heap.size w' va A/\A.length=i/\zHE (m.drop i) A=some R) (fun i=>m.length-i) 0 ⟨_,[],(kp rfl),di _,E0,AccBd.nil,rfl,h⟩ ?_);rintro i ρ1 w1 ⟨va,A,hk,a0,E0,C,aJ,h⟩;refine wpe_k _ hk ?_;refine zA ?_;rcases dR i m.length with hi | hi
   . obtain ⟨t,ht⟩:∃ t,m[i]? = some t:=⟨m[i],cY hi⟩;have hdr:m.drop i=t :: m.drop (i+1):=by rw [dZ hi];congr 1;rw [cY hi] at ht;exact dj ht
     rw [hdr] at h;obtain ⟨mb,mo,a9,aK,ae,ba,ah⟩:=(aI.resolve_left (fun e=>by subst e;simp at hi));replace ae:=ae.ext E0;have ah:=ah i t ht;have htl:=aq i t ht;refine K6 (K8 rfl (rS 15728656 ?_));refine zA (wct vT (sk (zA (zF (rj (K1 (zH zHg (cW (fun q=>Value.slice q m.length mc) aK) rfl oM oM ?_)))))));refine K1 (zh aggr54 rfl ae (by rw [fS];omega) ?_);rw [fS,dm i 4,ah];refine K1 (zR zero54 fun b6 w7 hb I hB6 hs => ?_);have hg6:w.heap.size<=b6:=by rw [hb];exact E0.size
     obtain ⟨E0,C⟩:=V1 I E0 C.ext;refine K1 (zc size54 rfl hB6 rfl (cw rfl) dE rfl fun w9 hU hN => ?_);replace E0:=E0.upd hU hg6;replace C:=C.upd hU hB6 dE dE;clear hB6;have hB6:Blk _ b6 54 (zLa t):=hN;refine rM 7340112 ?_;refine rj ?_;refine K1 (zR zero258 (Z2 E0 C.ext hB6.ext fun xb w7 E0 C hB6 hgx hBx => ?_));have s:=XBlk.zero hBx;refine rM 7340240 ?_;refine zA (rj (K1 (zB fo54_0 rfl (K1 (zD zCz rfl hB6 rfl (K1 (zB fo54_1 rfl (K1 (zD zCz rfl hB6 rfl (K1 (zB fo54_2 rfl (K1 (zD zCz rfl hB6 rfl (K1 (zB fo54_3 rfl (K1 (zD zCz rfl hB6 rfl (K1 (zV (cs := #[S t.lo,S t.hi,S t.least,S t.most]) kR (mv (rM 51546947728 ?_)))))))))))))))))))));refine zF (zX (X:=Nat) (fun k ρ w'=>∃ V,Keep ρ [(4,va),(7,.pointer (some ⟨xb,0,none⟩)),(20,.slice mp m.length mc),(21,.int .i64 (m.length:Int)),(22,.int .i64 (i:Int)),(34,.agg #[S t.lo,S t.hi,S t.least,S t.most]),(35,.int .i64 (k:Int))]/\k<=4/\Ext w w'/\AccBd w.heap.size w' va A/\XBlk w' xb V/\(∀ j,j<k->(zk ((txt t).getD j [])).2=0/\V.getD j 0=(zk ((txt t).getD j [])).1)) (fun k=>4-k) 0 ⟨_,(kp rfl),di _,E0,C,s,fun j hj=>absurd hj oM⟩ ?_);rintro k ρ1 w1 ⟨V,hk,bb,E0,C,s,Z⟩;refine wpe_k _ hk ?_;refine zA ?_
     rcases dR k 4 with H | H
     . have aM:((txt t).getD k []).length<1000000000:=by
        match k,H with
        | 0,_=>exact htl.1
        | 1,_=>exact htl.2.1
        | 2,_=>exact htl.2.2.1
        | 3,_=>exact htl.2.2.2
       refine K6 (K8 rfl (rS 120266424464 ?_));refine zA (wct vT (sk (zA (zF (rJ (K1 (zFE arr259 zCz rfl rfl H (txt_at t H) (ag (ag (rM 51546948496 ?_))))))))));refine rJ (K1 (j2 E0 C.ext s.ext yB (Parse_ok aM) fun bc w2 E0 C s D => ?_));obtain ⟨u,rfl,ai⟩:=D;refine mv (xt rfl (xt rfl ?_));refine K1 (zR zAt (Z3 E0 C.ext s.ext ai.ext fun gb w7 E0 C s ai hgg hBg=>K1 (zO rfl ai (Cell3.of hBg rfl) fun _ w9 hU hNA => ?_)));replace E0:=E0.upd hU hgg;replace C:=C.upd hU hBg dE dE;replace s:=s.updT hU hBg dE dE;refine ag (rM 51546951056 ?_);refine zA (rJ (K8 rfl (rM 35235919039888 ?_)));refine K0 rfl ?_ ?_<;>intro hc
       . have aj:(zk ((txt t).getD k [])).2≠0:=fO.1 hc;obtain rfl:=bandsL_err H (fun j hj=>(Z j hj).1) aj h;refine rJ (ag (ag (rM 51546947724 ?_)));exact zE (zU (zd (zU (zAP (zd (zU (zd (zU (zAP (zd (zU (zM ⟨rfl,_,zv rfl rfl rfl,E0,_,rfl,AccBd.nil⟩))))))))))))
       . have aj:(zk ((txt t).getD k [])).2=0:=fP.1 hc;refine sk (rI (K1 (zW rfl hNA fun v48 N48=>K1 (zAA (ix:=(k:Int)) zCJ rfl rfl oM oM ?_))));have J:=s;obtain ⟨_,_,_,J,_⟩:=J;refine K1 (runs_xstore (k:=k) rfl (by rw [fS];omega) N48 s H fun v w2 hU hN => ?_);replace E0:=E0.upd hU hgx;replace C:=(let ⟨_,e1,_⟩:=s;C.upd hU e1 dE dE);clear s;have s:=hN;refine rl (zN (zK (K5 [4,7,20,21,22,34,35] ?_)));refine K6 (K1 (zg (b:=1) (k+1) rfl rfl rfl oM (mv (rl (zL (⟨rfl,k+1,⟨_,(kp rfl),oM,E0,C,s,fun j hj => ?_⟩,oM⟩))))));have J:V.length=4:=J;by_cases ap:j=k
         . subst ap;exact ⟨aj,by simp [J,H]⟩
         . obtain ⟨a1,a2⟩:=Z j oM;exact ⟨a1,by rw [<- a2];simp [fz (eH ap)]⟩
     . obtain rfl:k=4:=by omega
       obtain ⟨bf,F,G⟩:=bandsL_go (fun j hj=>(Z j hj).1) h;have q0:V.getD 0 0=(zk t.lo).1:=(Z 0 oM).2;have q1:V.getD 1 0=(zk t.hi).1:=(Z 1 oM).2;have q2:V.getD 2 0=(zk t.least).1:=(Z 2 oM).2;have q3:V.getD 3 0=(zk t.most).1:=(Z 3 oM).2;refine K6 (K8 rfl (rS 120266424464 ?_));refine zA (wcf vF (zT (zt (zf (zI (zK (zA (zA ?_))))))));rcases badBand_cases F with ⟨M,F⟩ | ⟨z,M,hz,c1,F⟩ | ⟨z,M,hz,c1,c2,F⟩ | ⟨z,y,M,hz,c1,c2,hy,c3,F⟩ | ⟨z,y,M,hz,c1,c2,hy,c3,F⟩
       . subst F;rw [cD rfl] at G;obtain rfl:=dj G;refine K6 (K1 (zAA (ix:=0) zCJ rfl rfl dE dE (K1 (zAZ (k:=0) rfl rfl s dE fun v52 N52 => ?_))));rw [q0] at N52;refine K1 (j2 E0 C.ext s.ext yB (Sign_ok N52) fun vi w2 E0 C s D => ?_);subst D;refine K1 (zC (v := .bool true) rfl rfl (sB (cZ (zBO.2 M))) (mv (K3 (K3 (K3 (K3 (K3 (K3 (pc0 rfl (mv (K3 (K3 (K3 (K3 (pc0 rfl ?_)))))))))))))));refine mv (K3 (K3 (K3 (K3 (K3 (K3 (pc0 rfl (rs [4,7,20,21,22,34,35,56,57,58,59,60,61,64,65,66,67,70,71,72,73,74,75,76] ?_))))))));refine wct rfl (rj (ag (ag (rM 51546947724 ?_))));exact zE (zU (zd (zU (zAP (zd (zU (zM ⟨rfl,_,zv rfl rfl rfl,E0,_,rfl,AccBd.nil⟩)))))))
       . subst F;rw [cD rfl] at G;obtain rfl:=dj G;obtain ⟨r1,rfl⟩:=zEA hz;refine K6 (K1 (zAA (ix:=0) zCJ rfl rfl dE dE (K1 (zAZ (k:=0) rfl rfl s dE fun v52 N52 => ?_))));rw [q0] at N52;refine K1 (j2 E0 C.ext s.ext yB (Sign_ok N52) fun vi w2 E0 C s D => ?_);subst D;refine K1 (zC (v := .bool false) rfl rfl (sB (cU (fun e=>M (zBO.1 e)))) (mv (K2 (zAA (ix:=0) zCJ rfl rfl dE dE (K2 (zAZ (k:=0) rfl rfl s dE fun v57 N57 => ?_))))));rw [q0] at N57;refine K2 (zAA (ix:=1) zCJ rfl rfl dE dE (K2 (zAZ (k:=1) rfl rfl s dE fun v59 N59 => ?_)));rw [q1] at N59;refine K2 (j2 E0 C.ext s.ext yB (zEI N57 N59 r1) fun vi w2 E0 C s D => ?_);subst D;refine K2 (zC (v := .bool true) rfl rfl (sB (cZ c1)) (pc0 rfl (mv (K3 (K3 (K3 (K3 (pc0 rfl (mv (K3 (K3 (K3 (K3 (K3 (K3 ?_)))))))))))))));refine pc0 rfl (rs [4,7,20,21,22,34,35,56,57,58,59,60,61,64,65,66,67,70,71,72,73,74,75,76] ?_);refine wct rfl (rj (ag (ag (rM 51546947724 ?_))));exact zE (zU (zd (zU (zAP (zd (zU (zM ⟨rfl,_,zv rfl rfl rfl,E0,_,rfl,AccBd.nil⟩)))))))
       . subst F;rw [cD rfl] at G;obtain rfl:=dj G;obtain ⟨r1,rfl⟩:=zEA hz;refine K6 (K1 (zAA (ix:=0) zCJ rfl rfl dE dE (K1 (zAZ (k:=0) rfl rfl s dE fun v52 N52 => ?_))));rw [q0] at N52;refine K1 (j2 E0 C.ext s.ext yB (Sign_ok N52) fun vi w2 E0 C s D => ?_);subst D;refine K1 (zC (v := .bool false) rfl rfl (sB (cU (fun e=>M (zBO.1 e)))) (mv (K2 (zAA (ix:=0) zCJ rfl rfl dE dE (K2 (zAZ (k:=0) rfl rfl s dE fun v57 N57 => ?_))))));rw [q0] at N57;refine K2 (zAA (ix:=1) zCJ rfl rfl dE dE (K2 (zAZ (k:=1) rfl rfl s dE fun v59 N59 => ?_)));rw [q1] at N59;refine K2 (j2 E0 C.ext s.ext yB (zEI N57 N59 r1) fun vi w2 E0 C s D => ?_);subst D;refine K2 (zC (v := .bool false) rfl rfl (sB (cU c1)) (pc0 rfl (mv (K2 (zAA (ix:=2) zCJ rfl rfl dE dE (K2 (zAZ (k:=2) rfl rfl s dE fun v65 N65 => ?_)))))));rw [q2] at N65;refine K2 (j2 E0 C.ext s.ext yB (Sign_ok N65) fun vi w2 E0 C s D => ?_);subst D;refine K2 (zC (v := .bool true) rfl rfl (sB (cZ (zBO.2 c2))) (pc0 rfl (mv (K3 (K3 (K3 (K3 (K3 (K3 (pc0 rfl (rs [4,7,20,21,22,34,35,56,57,58,59,60,61,64,65,66,67,70,71,72,73,74,75,76] ?_)))))))))))
         refine wct rfl (rj (ag (ag (rM 51546947724 ?_))));exact zE (zU (zd (zU (zAP (zd (zU (zM ⟨rfl,_,zv rfl rfl rfl,E0,_,rfl,AccBd.nil⟩)))))))
       . subst F;rw [cD rfl] at G;obtain rfl:=dj G;obtain ⟨r1,rfl⟩:=zEA hz;obtain ⟨r2,rfl⟩:=zEA hy;refine K6 (K1 (zAA (ix:=0) zCJ rfl rfl dE dE (K1 (zAZ (k:=0) rfl rfl s dE fun v52 N52 => ?_))));rw [q0] at N52;refine K1 (j2 E0 C.ext s.ext yB (Sign_ok N52) fun vi w2 E0 C s D => ?_);subst D;refine K1 (zC (v := .bool false) rfl rfl (sB (cU (fun e=>M (zBO.1 e)))) (mv (K2 (zAA (ix:=0) zCJ rfl rfl dE dE (K2 (zAZ (k:=0) rfl rfl s dE fun v57 N57 => ?_))))));rw [q0] at N57;refine K2 (zAA (ix:=1) zCJ rfl rfl dE dE (K2 (zAZ (k:=1) rfl rfl s dE fun v59 N59 => ?_)));rw [q1] at N59;refine K2 (j2 E0 C.ext s.ext yB (zEI N57 N59 r1) fun vi w2 E0 C s D => ?_);subst D;refine K2 (zC (v := .bool false) rfl rfl (sB (cU c1)) (pc0 rfl (mv (K2 (zAA (ix:=2) zCJ rfl rfl dE dE (K2 (zAZ (k:=2) rfl rfl s dE fun v65 N65 => ?_)))))));rw [q2] at N65;refine K2 (j2 E0 C.ext s.ext yB (Sign_ok N65) fun vi w2 E0 C s D => ?_);subst D
         refine K2 (zC (v := .bool false) rfl rfl (sB (cU (fun e=>c2 (zBO.1 e)))) (pc0 rfl (mv (K2 (zAA (ix:=2) zCJ rfl rfl dE dE (K2 (zAZ (k:=2) rfl rfl s dE fun v71 N71 => ?_)))))));rw [q2] at N71;refine K2 (zAA (ix:=3) zCJ rfl rfl dE dE (K2 (zAZ (k:=3) rfl rfl s dE fun aN L => ?_)));rw [q3] at L;refine K2 (j2 E0 C.ext s.ext yB (zEI N71 L r2) fun vi w2 E0 C s D => ?_);subst D;refine K2 (zC (v := .bool true) rfl rfl (sB (cZ c3)) (pc0 rfl (rs [4,7,20,21,22,34,35,56,57,58,59,60,61,64,65,66,67,70,71,72,73,74,75,76] ?_)));refine wct rfl (rj (ag (ag (rM 51546947724 ?_))));exact zE (zU (zd (zU (zAP (zd (zU (zM ⟨rfl,_,zv rfl rfl rfl,E0,_,rfl,AccBd.nil⟩)))))))
       . subst F;rw [ct dE] at G;obtain ⟨r1,rfl⟩:=zEA hz;obtain ⟨r2,rfl⟩:=zEA hy;refine K6 (K1 (zAA (ix:=0) zCJ rfl rfl dE dE (K1 (zAZ (k:=0) rfl rfl s dE fun v52 N52 => ?_))));rw [q0] at N52;refine K1 (j2 E0 C.ext s.ext yB (Sign_ok N52) fun vi w2 E0 C s D => ?_);subst D;refine K1 (zC (v := .bool false) rfl rfl (sB (cU (fun e=>M (zBO.1 e)))) (mv (K2 (zAA (ix:=0) zCJ rfl rfl dE dE (K2 (zAZ (k:=0) rfl rfl s dE fun v57 N57 => ?_))))));rw [q0] at N57;refine K2 (zAA (ix:=1) zCJ rfl rfl dE dE (K2 (zAZ (k:=1) rfl rfl s dE fun v59 N59 => ?_)));rw [q1] at N59;refine K2 (j2 E0 C.ext s.ext yB (zEI N57 N59 r1) fun vi w2 E0 C s D => ?_);subst D;refine K2 (zC (v := .bool false) rfl rfl (sB (cU c1)) (pc0 rfl (mv (K2 (zAA (ix:=2) zCJ rfl rfl dE dE (K2 (zAZ (k:=2) rfl rfl s dE fun v65 N65 => ?_)))))));rw [q2] at N65;refine K2 (j2 E0 C.ext s.ext yB (Sign_ok N65) fun vi w2 E0 C s D => ?_);subst D;refine K2 (zC (v := .bool false) rfl rfl (sB (cU (fun e=>c2 (zBO.1 e)))) (pc0 rfl (mv (K2 (zAA (ix:=2) zCJ rfl rfl dE dE (K2 (zAZ (k:=2) rfl rfl s dE fun v71 N71 => ?_)))))));rw [q2] at N71
         refine K2 (zAA (ix:=3) zCJ rfl rfl dE dE (K2 (zAZ (k:=3) rfl rfl s dE fun aN L => ?_)));rw [q3] at L;refine K2 (j2 E0 C.ext s.ext yB (zEI N71 L r2) fun vi w2 E0 C s D => ?_);subst D;refine K2 (zC (v := .bool false) rfl rfl (sB (cU c3)) (pc0 rfl (rs [4,7,20,21,22,34,35,56,57,58,59,60,61,64,65,66,67,70,71,72,73,74,75,76] ?_)));refine wcf rfl (sk (rI (K1 (zAA (ix:=0) zCJ rfl rfl dE dE (K1 (zAZ (k:=0) rfl rfl s dE fun v79 N79 => ?_))))));rw [q0] at N79;obtain ⟨Q,d79,rfl,ar,au⟩:=N79;refine K1 (zAA (ix:=1) zCJ rfl rfl dE dE (K1 (zAZ (k:=1) rfl rfl s dE fun v81 N81 => ?_)));rw [q1] at N81;obtain ⟨U,d81,rfl,av,aw⟩:=N81;refine K1 (zV (cs := #[.bool (decide ((zk t.lo).1<0)),Q,d79,.bool (decide ((zk t.hi).1<0)),U,d81]) kR (K1 (zAA (ix:=2) zCJ rfl rfl dE dE (K1 (zAZ (k:=2) rfl rfl s dE fun v84 N84 => ?_)))));rw [q2] at N84;obtain ⟨ak,d84,rfl,ax,ay⟩:=N84;refine K1 (zAA (ix:=3) zCJ rfl rfl dE dE (K1 (zAZ (k:=3) rfl rfl s dE fun v86 N86 => ?_)));rw [q3] at N86;obtain ⟨al,d86,rfl,az,aA⟩:=N86
         refine K1 (zV (cs := #[.bool (decide ((zk t.lo).1<0)),Q,d79,.bool (decide ((zk t.hi).1<0)),U,d81,.bool (decide ((zk t.least).1<0)),ak,d84,.bool (decide ((zk t.most).1<0)),al,d86]) kR ?_);refine K1 (zi (cs:=[.bool (decide ((zk t.lo).1<0)),Q,d79,.bool (decide ((zk t.hi).1<0)),U,d81,.bool (decide ((zk t.least).1<0)),ak,d84,.bool (decide ((zk t.most).1<0)),al,d86]) zIU info144' dE dE kR fun sb aO hb I aP hs => ?_)
         have hC:BandC aO [.bool (decide ((zk t.lo).1<0)),Q,d79,.bool (decide ((zk t.hi).1<0)),U,d81,.bool (decide ((zk t.least).1<0)),ak,d84,.bool (decide ((zk t.most).1<0)),al,d86] ⟨(zk t.lo).1,(zk t.hi).1,(zk t.least).1,(zk t.most).1⟩ :=
          ⟨⟨_,_,rfl,ar.ext I,au.ext I⟩,⟨_,_,rfl,av.ext I,aw.ext I⟩,⟨_,_,rfl,ax.ext I,ay.ext I⟩,⟨_,_,rfl,az.ext I,aA.ext I⟩⟩
         obtain ⟨E0,C⟩:=V1 I E0 C.ext;refine K1 (runs_append_band C rfl aP rfl hC oM E0.size fun v89 w11 hY aQ => ?_);replace E0:=hY.ext (cX _) E0;refine ag (rl (zN (zK (K5 [4,7,20,21,22,34,35,56,57,58,59,60,61,64,65,66,67,70,71,72,73,74,75] ?_))));exact K6 (K1 (zg (b:=1) (i+1) rfl rfl rfl oM (mv (rl (zL (⟨rfl,i+1,⟨_,_,(kp rfl),oM,E0,aQ,by simp [aJ],G⟩,oM⟩))))))
   . obtain rfl:i=m.length:=by omega
     rw [eO] at h;obtain rfl:(A,(0:Int))=R:=dj h;refine K6 (K8 rfl (rS 15728656 ?_));refine zA (wcf vF (zT (zt (zf (zI (zK (rJ (ag (ag (rM 7340044 ?_))))))))));exact zE (zM ⟨rfl,_,zv rfl rfl rfl,E0,_,rfl,C⟩)
variable {c2 cv u1 u2:Value} {den num:Poly}
theorem fails_some {B:Band} {f:Bool} (h:fails num den B=some f):∃ up low a,rules num den B.least B.most=some (up,low)/\zJP up B.lo B.hi=some a/\((a=false/\f=true)\/(a=true/\∃ c,zJP low B.lo B.hi=some c/\f = !c)):=by
 unfold fails at h;obtain ⟨⟨up,low⟩,s,h⟩:=bind_some h;obtain ⟨a,z,h⟩:=bind_some h;refine ⟨up,low,a,s,z,?_⟩;split at h
 . next e=>exact .inl ⟨e,(dj h).symm⟩
 . next e =>
   obtain ⟨c,A,C⟩:=map_some h;exact .inr ⟨by simpa using e,c,A,C.symm⟩
theorem failing1_ok {vn vd:Value} {bn bd:Nat} {B:Band} {f:Bool} (hb:zNn w v B) (M:Blk w bn 25 [vn]) (Q:Blk w bd 25 [vd]) (U:IsPoly w vn num) (V:IsPoly w vd den) (h:fails num den B=some f):Ret prog 185 #[v,.pointer (some ⟨bn,0,none⟩),.pointer (some ⟨bd,0,none⟩)] w (fun r _=>r = .bool f):=by
 obtain ⟨c,rfl,I,z⟩:=hb;refine J0 24 func185 rfl (rj ?_);refine K1 (zn (Z0 E0 fun Z w1 E0 hgb1 s=>ag (rM 14 ?_)));refine zA (zA ?_);obtain ⟨up,low,a,H,hu,hf⟩:=fails_some h;replace s:Blk _ Z 144 c:=s;replace z:=z.ext E0;replace M:=M.ext E0;replace Q:=Q.ext E0;replace U:=U.ext E0;replace V:=V.ext E0;refine K6 (K1 (zh zPW rfl s oM ?_));rw [zLg I];refine K1 (zD zBv rfl M rfl (K1 (zD zBv rfl Q rfl (K1 (j2 E0 s.ext z.ext yB (zRS ⟨c,rfl,I,z⟩ U V H) fun v14 w2 E0 s z hr3 => ?_)))));obtain ⟨va,vb,rfl,A,C⟩:=hr3;refine mv (rS 3080 ?_);refine zF (zX (X:=Nat) (fun i ρ w'=>Keep ρ [(3,.pointer (some ⟨Z,0,none⟩)),(10,.agg #[va,vb]),(11,.int .i64 (i:Int))]/\i<=2/\Ext w w'/\Blk w' Z 144 c/\BandC w' c B/\IsPoly w' va up/\IsPoly w' vb low/\(i=0\/(a=true/\∃ q,zJP low B.lo B.hi=some q/\f = !q))/\(i=2->f=false)) (fun i=>2-i) 0 ⟨(kp rfl),oM,E0,s,z,A,C,.inl rfl,fun e=>by cases e⟩ ?_);rintro i ρ1 w1 ⟨hk,av,E0,s,z,A,C,ad,ae⟩;refine wpe_k _ hk ?_;refine zA ?_;rcases (oM:i=0\/i=1\/i=2) with rfl | rfl | rfl
 . skip
   refine K6 (K8 rfl (rS 7176 ?_));refine zA (wct rfl (sk (zA (zF (rj (K1 (zFE (ix:=0) zFJ zBv rfl rfl dE rfl (ag (rM 3144 ?_)))))))));refine rJ (K1 (zB zIl rfl (K1 (zB zOQ rfl (K1 (zBQ rfl s oM z.1 fun ah F=>K1 (zB zIl rfl (K1 (zB zQp rfl (K1 (zBQ rfl s oM z.2.1 fun v20 N20=>K1 (j4 E0 s.ext z.ext A.ext C.ext yB (zOj A F N20 hu) fun vi w2 E0 s z A C H => ?_))))))))))));subst H;refine K1 (zp rfl (rM 4197384 ?_));refine K0 rfl ?_ ?_<;>intro hc
   . have G:a=false:=by simpa using hc
     have ai:f=true:=(hf.resolve_right (fun e=>by rw [G] at e;exact absurd e.1 dE)).2;subst ai;refine rj (ag (rM 3096 ?_));exact zE (zd (zU (zAP (zd (zU (en rfl E0 rfl))))))
   . have G:a=true:=by simpa using hc
     refine zw (zN (zK (K6 (K1 (zg (a:=0) (b:=1) (1) rfl rfl rfl dE (mv (rl (zL ?_))))))))
     first
     | exact ⟨rfl,1,⟨(kp rfl),oM,E0,s,z,A,C,.inr (hf.resolve_left (fun e=>by rw [e.1] at G;cases G)),fun e=>by cases e⟩,oM⟩
     | exact ⟨rfl,2,⟨(kp rfl),oM,E0,s,z,A,C,.inr ⟨J,q,hq,D⟩,fun _=>by rw [D,L];rfl⟩,oM⟩
 . obtain ⟨J,q,hq,D⟩:=ad.resolve_left dE;refine K6 (K8 rfl (rS 7176 ?_));refine zA (wct rfl (sk (zA (zF (rj (K1 (zFE (ix:=1) zFJ zBv rfl rfl dE rfl (ag (rM 3144 ?_)))))))));refine rJ (K1 (zB zIl rfl (K1 (zB zOQ rfl (K1 (zBQ rfl s oM z.1 fun ah F=>K1 (zB zIl rfl (K1 (zB zQp rfl (K1 (zBQ rfl s oM z.2.1 fun v20 N20=>K1 (j4 E0 s.ext z.ext A.ext C.ext yB (zOj C F N20 hq) fun vi w2 E0 s z A C H => ?_))))))))))));subst H;refine K1 (zp rfl (rM 4197384 ?_));refine K0 rfl ?_ ?_<;>intro hc
   . have aj:q=false:=by simpa using hc
     subst aj;obtain rfl:f=true:=D;refine rj (ag (rM 3096 ?_));exact zE (zd (zU (zAP (zd (zU (en rfl E0 rfl))))))
   . have L:q=true:=by simpa using hc
     refine zw (zN (zK (K6 (K1 (zg (a:=1) (b:=1) (2) rfl rfl rfl dE (mv (rl (zL ?_))))))))
     first
     | exact ⟨rfl,1,⟨(kp rfl),oM,E0,s,z,A,C,.inr (hf.resolve_left (fun e=>by rw [e.1] at G;cases G)),fun e=>by cases e⟩,oM⟩
     | exact ⟨rfl,2,⟨(kp rfl),oM,E0,s,z,A,C,.inr ⟨J,q,hq,D⟩,fun _=>by rw [D,L];rfl⟩,oM⟩
 . have ak:=ae rfl;subst ak;refine K6 (K8 rfl (rS 7176 ?_));refine zA (wcf rfl (zT (zt (zf (zI (zK (rj (ag (rM 3096 ?_)))))))));exact zE (en rfl E0 rfl)
theorem IndexB_ok {I:Value} {fn:FuncId} {A:List Band} {R:Int} (H:zIX w cv A) (U:A.length<=8192) (J:zBA prog fn) (h:zIi num den A 0=some R) (G:∀ (i:Nat) (B:Band) (f:Bool),A[i]? = some B->fails num den B=some f->∀ (w':World) (v:Value),Ext w w'->zNn w' v B->Ret prog fn #[v,I,c2] w' (fun u _=>u = .bool f)):Ret prog 184 #[cv,.func (.func fn) #[] #[I,c2]] w (fun r _=>r = .int .i64 R):=by
 obtain ⟨V,ac,rfl,Z⟩:=H;refine J0 19 func184 rfl (rj (ag (rM 3 ?_)));refine zA (rJ (K1 (zG zNb rfl (mv (rM 387 ?_)))));refine zF (zX (X:=Nat) (fun i ρ w'=>Keep ρ [(0,.slice V A.length ac),(1,.func (.func fn) #[] #[I,c2]),(7,.int .i64 (A.length:Int)),(8,.int .i64 (i:Int))]/\i<=A.length/\Ext w w'/\zIi num den (A.drop i) i=some R) (fun i=>A.length-i) 0 ⟨(kp rfl),di _,E0,h⟩ ?_);rintro i ρ1 w1 ⟨hk,ab,E0,h⟩;refine wpe_k _ hk ?_;refine zA ?_;rcases dR i A.length with F | F
 . obtain ⟨B,D⟩:∃ B,A[i]? = some B:=⟨A[i],cY F⟩;have hdr:A.drop i=B :: A.drop (i+1):=by rw [dZ F];congr 1;rw [cY F] at D;exact dj D
   rw [hdr] at h;unfold zIi at h;obtain ⟨f,L,h⟩:=bind_some h;obtain ⟨ad,cs,M,s,Q,z⟩:=(Z.resolve_left (fun e=>by subst e;simp at F));replace s:=s.ext E0;replace z:zMV w1 cs 0 A:=fun i B D=>(z i B D).ext E0;refine K6 (K8 rfl (rS 899 ?_));refine zA (wct vT (sk (zA (zF (rJ (ag (rM 419 ?_)))))));refine rJ (mv (mv (K1 (zH zNb (cW (fun q=>Value.slice q A.length ac) M) rfl oM oM ?_))));rw [fS,dW,dm];refine K1 (zIL rfl s Q z D fun v15 N15=>K1 (zCi rfl J (CallK.of_ret (G i B f D L _ v15 E0 N15) fun vi w2 hE hr => ?_)));replace E0:=E0.trans hE;subst hr;refine rM 65955 ?_;refine K0 rfl ?_ ?_<;>intro H
   . have C:f=true:=H;subst C;rw [cD rfl] at h;obtain rfl:=dj h;refine rJ (ag (rM 403 ?_));exact zE (zd (zU (zAP (zd (zU (en rfl E0 rfl))))))
   . have C:f=false:=H;subst C;rw [ct dE] at h;exact zw (zN (zK (K6 (K1 (zg (b:=1) (i+1) rfl rfl rfl oM (mv (rl (zL (⟨rfl,i+1,⟨(kp rfl),oM,E0,h⟩,oM⟩)))))))))
 . obtain rfl:i=A.length:=by omega
   rw [eO] at h;obtain rfl:(-1:Int)=R:=dj h;refine K6 (K8 rfl (rS 899 ?_));refine zA (wcf vF (zT (zt (zf (zI (zK (rj (ag (rM 403 ?_)))))))));exact zE (en rfl E0 rfl)
theorem failing_ok {A:List Band} {R:Int} (s:IsPoly w u1 num) (z:IsPoly w u2 den) (I:zIX w v A) (C:A.length<=8192) (h:zIi num den A 0=some R):Ret prog 88 #[u1,u2,v] w (fun r _=>r = .int .i64 R):=by
 obtain ⟨D,F,rfl,J⟩:=s;obtain ⟨G,H,rfl,L⟩:=z;have s:IsPoly w (.slice D num.length F) num:=⟨D,F,rfl,J⟩;have z:IsPoly w (.slice G den.length H) den:=⟨G,H,rfl,L⟩;refine J0 10 func88 rfl (rj ?_);refine K1 (zn (Z0 E0 fun b1 w1 E0 hgb1 hB1 => ?_));refine K1 (zn (Z1a E0 hB1.ext hB1.lt fun b2 w2 E0 hB1 hgb2 ne_b1_b2 hB2=>ag (rM 28 ?_)));refine rJ (K1 (zCj (K1 (zJ yB (CallK.of_ret (IndexB_ok (I.ext E0) C yB h fun i B f hB hf w' v hE hv => ?_) fun vi w2 hE hr => ?_) rfl))))
 . exact failing1_ok hv (hB1.ext hE) (hB2.ext hE) ((s.ext E0).ext hE) ((z.ext E0).ext hE) hf
 replace E0:=E0.trans hE;subst hr;refine ag (rm [6] ?_);exact zE (en rfl E0 rfl)
end Go.Proofs.YtjiendlfobjanaaGreatDoor
namespace Go.Proofs.YtjiendlfobjanaaGreatDoor
open Go Go.RowKit Go.Proofs Tryz
set_option maxRecDepth 10000
set_option maxHeartbeats 2000000
section
variable {N b n t:Nat} {P:Program} {T T':TypeId} {cs:List Value} {den num:Poly} {fn:Func} {u1 u2 v:Value} {w:World} {ρ:Env}
section gives
theorem zHx {s u:Nat} (h:fn.results = #[.tmp s,.cell t T,.tmp u]) (A:(dom ρ).contains s=true) (C:(dom ρ).contains t=true) (D:(dom ρ).contains u=true) (F:look1 ρ t = .pointer (some ⟨b,0,none⟩)) (G:Aggr P T n) (H:Blk w b T' cs) (J:cs.length=n):Gives P fn N ρ w (.tuple #[look1 ρ s,.agg cs.toArray,look1 ρ u]):=fun a z=>by
 have I:=z.at_ s (by simpa using A);have h1:=z.at_ t (by simpa using C);have h4:=z.at_ u (by simpa using D);rw [F] at h1;have h2:=zCx (o:=0) G H oM;have h3:((cs.drop 0).take n).toArray=cs.toArray:=by rw [eT,dF oM]
 rw [h3] at h2;rw [gS] at h1;simp only [results,h];rw [<- I,<- h4];simp [h1,asAddr,h2]
end gives
attribute [local irreducible] Runs WPE CallK Ret
def zQw (num den:Poly) (m:List BandT) (fuel:Nat):Option (Int×Rat×Int) :=
 if 21<max (trim num).length (trim den).length then some (0,0,3) else (zKC m).bind fun l=>if l.2≠0 then some (0,0,l.2) else
  (zIi num den l.1 0).bind fun k=>if 0<=k then (l.1[k.toNat]?).bind fun B=>(rules num den B.least B.most).bind fun r=>(rsub B.hi B.lo).bind fun d=>(witN r.1 r.2 B.lo (rabs d) fuel 1).map fun x=>(k,x,0)
  else some (k,0,0)
theorem zLb:∀ {l:List BandT} {A:List Band} {R:List Band×Int},zHE l A=some R->R.1.length<=A.length+l.length
 | [],A,R,h=>by cases h;simp
 | t :: l,A,R,h=>by
  unfold zHE at h;split at h
  . cases h;simp
  . split at h
    . cases h;simp
    . split at h
      . cases h;simp
      . split at h
        . cases h;simp
        . obtain ⟨s,_,h⟩:=bind_some h;split at h
          . cases h;simp
          . have:=zLb h;simp at this ⊢;omega
theorem bandsS_len {m:List BandT} {R:List Band×Int} (h:zKC m=some R):R.1.length<=6:=by
 unfold zKC at h;split at h
 . cases h;simp
 . have:=zLb h;simp at this;omega
theorem Meets_ok {m:List BandT} {fuel:Nat} {R:Int×Rat×Int} (Z:IsPoly w u1 num) (h2:IsPoly w u2 den) (hm:zLV w v m) (V:∀ (i:Nat) (t:BandT),m[i]? = some t->t.lo.length<1000000000/\t.hi.length<1000000000/\t.least.length<1000000000/\t.most.length<1000000000) (ah:2^fuel<=1099511627776) (h:zQw num den m fuel=some R):Ret prog 29 #[u1,u2,v] w (fun r w'=>∃ u,r = .tuple #[.int .i64 R.1,u,.int .i64 R.2.2]/\IsNum w' u R.2.1):=by
 have av:num.length<=4096:=by obtain ⟨_,_,_,_,_,h4⟩:=Z;exact h4
 have aw:den.length<=4096:=by obtain ⟨_,_,_,_,_,h4⟩:=h2;exact h4
 have ax:=zAV num;have htd:=zAV den;refine J0 41 func29 rfl (rj (ag ?_));refine K1 (zR zAt (Z0 E0 fun b1 w1 E0 hgb1 z=>ag (rM 135 ?_)));refine zA (zA ?_);replace z:Blk _ b1 37 [.bool false,.slice none 0 0,.slice none 0 0]:=z;refine rI (K1 (j1 E0 z.ext yB (zCn (Z.ext E0)) fun vi w2 E0 z hr => ?_));subst hr;refine mv (K1 (j1 E0 z.ext yB (zCn (h2.ext E0)) fun vi w2 E0 z hr => ?_));subst hr;refine K1 (zFd rfl rfl ?_);have hmx:(if (((trim num).length:Int)-1)<(((trim den).length:Int)-1) then (((trim den).length:Int)-1) else (((trim num).length:Int)-1))=max ((trim num).length:Int) (trim den).length-1:=by split<;>omega
 rw [hmx];refine K8 rfl (rS 32903 ?_);refine K0 rfl ?_ ?_<;>intro D
 . have hb:21<max (trim num).length (trim den).length:=by have:=dh D;omega
   unfold zQw at h;rw [cD hb] at h;obtain rfl:=dj h;refine rj (K1 (zV (cs := #[.bool false,.slice none 0 0,.slice none 0 0]) kR (ag (K1 (zO rfl IsNum.zero (Cell3.of z rfl) fun _ w9 hU s => ?_)))));replace E0:=E0.upd hU hgb1;refine ag (rM 448 ?_);refine zE (zU (zM ?_));obtain ⟨F,A,C,G⟩:=s;exact ⟨rfl,_,zHx rfl rfl rfl rfl rfl zAI A C,E0,_,rfl,G⟩
 . have hb:¬ 21<max (trim num).length (trim den).length:=by have:=de D;omega
   unfold zQw at h;rw [ct hb] at h;obtain ⟨l,hl,h⟩:=bind_some h;have hll:=bandsS_len hl;refine sk (rJ (K1 (j1 E0 z.ext yB (bands_ok (hm.ext E0) V hl) fun v19 w2 E0 z hr => ?_)));obtain ⟨u,rfl,M⟩:=hr;have M:=M.bands;refine mv (xt rfl (xt rfl (ag (ag (rM 899 ?_)))));refine zA (rJ (K8 rfl (rM 8389507 ?_)));refine K0 rfl ?_ ?_<;>intro D
   . have he:l.2≠0:=fO.1 D;rw [cD he] at h;obtain rfl:=dj h;refine rj (K1 (zV (cs := #[.bool false,.slice none 0 0,.slice none 0 0]) kR (mv (ag (K1 (zO rfl IsNum.zero (Cell3.of z rfl) fun _ w9 hU s => ?_))))));replace E0:=E0.upd hU hgb1;refine ag (rM 448 ?_);refine zE (zU (zM ?_));obtain ⟨F,A,C,G⟩:=s;exact ⟨rfl,_,zHx rfl rfl rfl rfl rfl zAI A C,E0,_,rfl,G⟩
   . have he:l.2=0:=fP.1 D;rw [ct oM] at h;obtain ⟨k,Q,h⟩:=bind_some h;refine sk (zA (rJ (mv (mv (K1 (j2 E0 z.ext M.ext yB (failing_ok (Z.ext E0) (h2.ext E0) M oM Q) fun vi w2 E0 z M hr => ?_))))));subst hr;refine ag (rM 707 ?_);refine rJ (K8 rfl (rM 2147484355 ?_));refine K0 rfl ?_ ?_<;>intro D
     . have H:0<=k:=by have:=dh D;omega
       rw [cD H] at h;obtain ⟨B,hB,h⟩:=bind_some h;obtain ⟨⟨up,low⟩,hr1,h⟩:=bind_some h;obtain ⟨d,ai,h⟩:=bind_some h;obtain ⟨x,aj,U⟩:=map_some h;obtain ⟨ak,rfl⟩:=zOv ai;obtain ⟨n,rfl⟩:∃ n:Nat,k=n:=⟨k.toNat,oM⟩;rw [fS] at hB;have hlt:n<l.1.length:=(dY.1 hB).1;obtain ⟨ay,ac,rfl,al⟩:=M;obtain ⟨az,cs,am,an,ao,ap⟩:=(al.resolve_left (fun e=>by rw [e] at hlt;simp at hlt));refine rI (mv (K1 (zH zNb (cW (fun q=>Value.slice q l.1.length ac) am) rfl oM oM ?_)));rw [fS,dW,dm];refine K1 (zIL rfl an ao ap hB fun v35 N35=>mv (mv (K1 (j1 E0 z.ext yB (witness_ok N35 (Z.ext E0) (h2.ext E0) hr1 ak aj ah) fun v38 w2 E0 z N38=>K1 (zO rfl N38 (Cell3.of z rfl) fun _ w9 hU s => ?_)))));replace E0:=E0.upd hU hgb1
       try clear N38
       rw [show x=R.2.1 from by rw [<- U]] at s;refine rS 192 ?_;refine zA (zAR none 3 [[12],[14],[3]] mixed kR fun K hK=>dM aL (dc (fun hE Q=>zW Q.1 (s.ext hE) fun _=>eX) (dA aL (zAJ (hK _ fun wq hE => ?_)))));rintro _ rfl v40 N40 _ rfl;refine zY ?_;obtain ⟨E0,s⟩:=V1 hE E0 s.ext;obtain ⟨F,A,C,-⟩:=s;refine K1 (zO rfl N40 (Cell3.of A C) fun _ w9 hU s => ?_);replace E0:=E0.upd hU hgb1;refine ag (zAh (zK (K5 [6,7,8] ?_)));refine zE (zM ?_);obtain ⟨aq,I,J,L⟩:=s;exact ⟨rfl,_,zHx rfl rfl rfl rfl rfl zAI I J,E0,_,by rw [<- U];rfl,L⟩
     . have H:¬ 0<=k:=by have:=de D;omega
       rw [ct H] at h;have U:(k,0,0)=R:=dj h;have s:NumAt b1 0 _:=⟨_,z,rfl,IsNum.zero⟩;rw [show (0:Rat)=R.2.1 from by rw [<- U]] at s;refine sk (zA (zAR none 3 [[12],[14],[3]] mixed kR fun K hK=>dM aL (dc (fun hE Q=>zW Q.1 (s.ext hE) fun _=>eX) (dA aL (zAJ (hK _ fun wq hE => ?_))))));rintro _ rfl v40 N40 _ rfl;refine zY ?_;obtain ⟨E0,s⟩:=V1 hE E0 s.ext;obtain ⟨F,A,C,-⟩:=s;refine K1 (zO rfl N40 (Cell3.of A C) fun _ w9 hU s => ?_);replace E0:=E0.upd hU hgb1;refine ag (zAh (zK (K5 [6,7,8] ?_)));refine zE (zM ?_);obtain ⟨aq,I,J,L⟩:=s;exact ⟨rfl,_,zHx rfl rfl rfl rfl rfl zAI I J,E0,_,by rw [<- U];rfl,L⟩
end
section
variable {b c i:Nat} {cs:List Value} {w:World}
theorem zPH (h:i<100):Ret prog 331 #[.int .i64 (i:Int)] w (fun v _=>v=S (Lib.decDigits i)) :=
 (Tryz.internal_strconv_small i h w).mono fun e w' ⟨he,s⟩=>⟨_,he,by rw [s];exact Ext.refl w,rfl⟩
theorem join1_ok {x:List UInt8} (h:Blk w b 9 cs) (z:cs[0]? = some (S x)) (A:1<=c) (D:x.length<=1000000):Ret prog 243 #[.slice (some ⟨b,0,none⟩) 1 c,S []] w (fun v _=>v=S x):=by
 have s:Lib.join ([(⟨x.toArray⟩:ByteArray)].map (·.data.toList)) (⟨#[]⟩:ByteArray).data.toList=x:=by simp [Lib.join]
 have:=Tryz.strings_Join b 0 c [⟨x.toArray⟩] ⟨#[]⟩ w (fun j y hy=>by
  cases j with
  | zero=>simp at hy;subst hy;rw [h.cell];exact z
  | succ j=>simp at hy) h.lt sM (by simpa using A) (by rw [s];omega)
 rw [s] at this;exact this.mono fun e w' ⟨he,C⟩=>⟨_,he,C,rfl⟩
theorem zEx:prog.underlying 304=some (.slice 9):=kR
theorem slice304:zBH prog 304 9 1:=pU
theorem info9:(prog.info? 9).map (fun i=>(i.zero,i.size,i.bytes))=some (some (S []),1,16):=kR
theorem info9':(prog.info? 9).map (fun i=>(i.zero,i.size))=some (some (S []),1):=kR
attribute [local irreducible] Runs WPE CallK Ret
theorem fmt2_ok (h:i<100):Ret prog 298 #[.int .u64 (i:Int),.int .i64 10] w (fun r _=>r=S (Lib.decDigits i)):=by
 refine J0 32 func298 rfl (rj (ag (rM 3 ?_)));refine zA (rJ (K8 rfl (rM 1027 ?_)));refine wct rfl (zA (rJ (K1 (zC (v := .bool true) rfl rfl (sB (cZ oM)) (rM 4097 ?_)))));refine wct rfl (rJ (K1 (zBz under164' under3' rfl ?_)));rw [show IntKind.i64.wrap (i:Int)=(i:Int) from zm oM oM];refine K1 (j0 E0 yB (zPH h) fun vi w2 E0 hr => ?_);subst hr;refine ag (rm [4] ?_);exact zE (zU (zU (en rfl E0 rfl)))
theorem fmt_ok (h:i<100):Ret prog 240 #[.int .u64 (i:Int),.int .i64 10] w (fun r _=>r=S (Lib.decDigits i)):=by
 refine J0 8 func240 rfl (rj (ag (rM 3 ?_)));refine rJ (mv (K1 (j0 E0 yB (fmt2_ok h) fun z w2 E0 s => ?_)));subst s;refine ag (rm [4] ?_);exact zE (en rfl E0 rfl)
end
end Go.Proofs.YtjiendlfobjanaaGreatDoor
namespace Go.Proofs.YtjiendlfobjanaaGreatDoor
open Go Go.RowKit Go.Proofs Tryz
set_option maxRecDepth 10000
set_option maxHeartbeats 2000000
attribute [local irreducible] Runs WPE CallK Ret
variable {N b c n:Nat} {P:Program} {fn:Func} {v:Value} {w:World} {ρ:Env}
theorem zHT:Lib.decDigits 0=[48]:=by unfold Lib.decDigits;rfl
theorem zDO (h:n<100):(Lib.decDigits n).length<=2:=by
 unfold Lib.decDigits;split
 . simp
 . unfold Lib.decDigits;rw [dif_pos oM];simp
theorem fit_100 (h:n<100):Fit n:=zHu oM
def textS (q:Rat):List UInt8:=(if q<0 then [45] else [])++Lib.decDigits q.num.natAbs++(if q.den=1 then [] else 47 :: Lib.decDigits q.den)
theorem gives_0 (h:fn.results = #[]):Gives P fn N ρ w (.tuple #[]):=fun a s=>by
 simp only [results,h];simp
theorem rev1_ok:Ret prog 242 #[.slice (some ⟨b,0,none⟩) 1 c] w (fun _ _=>True):=by
 refine J0 28 func242 rfl (rJ (K1 (zG slice304 rfl (K1 (zAL (a:=1) (b:=1) (0) rfl rfl dE dE (ag (ag (rM 13 ?_))))))));refine zF (zX (X:=Nat) (fun _ ρ w'=>Keep ρ [(2,.int .i64 0),(3,.int .i64 ((0:Nat):Int))]/\Ext w w') (fun _=>0) 0 ⟨(kp rfl),E0⟩ ?_);rintro k ρ1 w1 ⟨h,E0⟩;refine wpe_k _ h ?_;refine zA (rJ (mv (K8 rfl (rM 524 ?_))));exact wcf rfl (zT (zt (zf (zI (zQq ⟨rfl,_,gives_0 rfl,E0,trivial⟩)))))
theorem zOu (V:IsW w v n) (A:n<100):Ret prog 150 #[v] w (fun r _=>r=S (Lib.decDigits n)):=by
 obtain ⟨p,l,c,rfl,I⟩:=V.form;refine J0 38 func150 rfl (rj (ag (rM 1 ?_)));refine zA (rJ (K1 (zG zj rfl (K8 rfl (rM 513 ?_)))));refine K0 rfl ?_ ?_<;>intro hc
 . have J:n=0:=I.1 (by have:=gC hc;omega);refine rj (ag (rM 5 ?_));refine zE (zU (zM ?_));exact ⟨rfl,_,zZ rfl rfl,E0,by rw [J,zHT];rfl⟩
 . have ab:l≠0:=fun e=>by subst e;cases hc
   refine sk (rj (ag (rM 9 ?_)));refine zA (zF (zX (X:=Nat) (fun k ρ w'=>(k=1/\Keep ρ [(0,.slice p l c),(3,.slice none 0 0)]/\Ext w w'/\IsW w' (.slice p l c) n)\/(k=0/\∃ (q:Value) (b C:Nat) (cs:List Value),Keep ρ [(0,q),(3,.slice (some ⟨b,0,none⟩) 1 C)]/\Ext w w'/\IsW w' q 0/\Blk w' b 9 cs/\cs[0]? = some (S (Lib.decDigits n))/\1<=C)) (fun k=>k) 1 (.inl ⟨rfl,(kp rfl),E0,V.ext E0⟩) ?_));rintro k ρ1 w1 hF;refine zA (zA ?_);rcases hF with ⟨rfl,D,E0,F⟩ | ⟨rfl,q,b,C,cs,D,E0,F,G,L,M⟩
   . refine wpe_k _ D ?_;refine rI (K1 (zG zj rfl (K8 rfl (rS 4105 ?_))));refine wct vT (sk (zF (rJ (K1 (j0 E0 yB (zQV (b:=1000000000000000000) F (fit_100 A) dE dE) fun ad w2 E0 z => ?_)))));obtain ⟨q,rfl,h⟩:=z;rw [fE oM] at h;rw [fL (oM:n<1000000000000000000)];refine mv (xt rfl (xt rfl (ag (ag (rM 57 ?_)))));refine rJ (K1 (j1 E0 h.ext yB (fmt_ok A) fun vi w2 E0 h z => ?_));subst z;refine ag (rM 89 ?_);refine zA (rj (mv ?_));obtain ⟨Z,H,qc,rfl,s⟩:=h.form;have hql0:H=0:=s.2 rfl;refine K1 (zG zj rfl (K8 rfl (rM 4194393 ?_)));refine wcf vF (sk (rJ (mv ?_)));refine K1 (zi (cs:=[S (Lib.decDigits n)]) zEx info9' dE dE kR fun sb w10 hb hE hBb hs => ?_);obtain ⟨E0,h⟩:=V1 hE E0 h.ext;have hnew:=zAc (0+1) 0;refine K1 (zAW (n:=1) (old:=[]) zEx zEx info9 rfl dE rfl rfl (.inl rfl) rfl (Cells.blk hBb) rfl dE oM fun w11 rest c9 Q hE U _ _ => ?_);obtain ⟨E0,h⟩:=V1 hE E0 h.ext;refine ag (rM 25 ?_);exact rI (ag (rl (zN (zL (⟨rfl,0,.inr ⟨rfl,_,_,_,_,(kp rfl),E0,h,U,rfl,Q⟩,oM⟩)))))
   . obtain ⟨Z,H,qc,rfl,s⟩:=F.form;have hql0:H=0:=s.2 rfl;refine wpe_k _ D ?_;refine rI (K1 (zG zj rfl (K8 rfl (rS 4105 ?_))));refine wcf vF (zT (zt (zf (zI (zK (rJ (K1 (j1 E0 G.ext yB (rev1_ok) fun vr w2 E0 G _=>rM 9 ?_))))))));refine rj (mv ?_);refine K1 (j0 E0 yB (join1_ok G L M (by have:=zDO A;omega)) fun vi w2 E0 z => ?_);subst z;refine ag (rM 13 ?_);exact zE (en rfl E0 rfl)
theorem zLX {q:Rat} (M:IsNum w v q) (C:q.num.natAbs<100) (D:q.den<100):Ret prog 64 #[v] w (fun r _=>r=S (textS q)):=by
 obtain ⟨n,d,rfl,F,A⟩:=M;refine J0 22 func64 rfl (rj ?_);refine K1 (zn (Z0 E0 fun I w1 E0 hgb1 h=>ag (rM 2 ?_)));refine zA ?_;replace h:Blk _ I 37 [.bool (decide (q<0)),n,d]:=h;replace F:=F.ext E0;replace A:=A.ext E0;refine K6 (K1 (zB zDF rfl (K1 (zD zAw rfl h rfl (K1 (j3 E0 h.ext F.ext A.ext yB (zOu F C) fun Q w2 E0 h F A J => ?_))))));subst J;refine ag (rS 10 ?_);refine zBZ (fun ρ w'=>Keep ρ [(1,.pointer (some ⟨I,0,none⟩)),(3,S ((if q<0 then [45] else [])++Lib.decDigits q.num.natAbs))]/\Ext w w'/\Blk w' I 37 [.bool (decide (q<0)),n,d]/\IsW w' d (if q.den=1 then 0 else q.den)) ?_ ?_
 . refine rj (K1 (zB zEK rfl (K1 (zD zCo rfl h rfl (rM 266 ?_)))));refine K0 rfl ?_ ?_<;>intro G
   . have z:q<0:=dh G;refine K6 (mv ?_);refine K1 (zBm (a:=[45]) rfl rfl (by have:=zDO C;simp;omega) ?_);refine ag (rl (zL ?_));exact ⟨rfl,⟨rfl,rfl,rfl,by rw [cD z];rfl,trivial⟩,E0,h,A⟩
   . have z:¬ q<0:=de G;refine zw (zL ?_);exact ⟨rfl,⟨rfl,rfl,rfl,by rw [ct z];rfl,trivial⟩,E0,h,A⟩
 . skip
   rintro Z w2 ⟨U,E0,h,A⟩;refine wpe_k _ U ?_;refine zA (rj (K1 (zB zGN rfl (K1 (zD zAw rfl h rfl ?_)))));obtain ⟨dp,dl,dc,rfl,H⟩:=A.form;refine K1 (zG zj rfl (K8 rfl (rM 16394 ?_)));refine K0 rfl ?_ ?_<;>intro G
   . have s:q.den≠1:=fun e=>by
      have L:dl=0:=H.2 (cD e);have:=dh G;omega
     rw [ct s] at A;refine rI (K1 (zB zGN rfl (K1 (zD zAw rfl h rfl (K1 (j0 E0 yB (zOu A D) fun Q w2 E0 J => ?_))))));subst J;refine K1 (zBm (a:=[47]) rfl rfl (by have:=zDO D;simp;omega) ?_);refine K1 (zBm rfl rfl (by have:=zDO C;have:=zDO D;simp;split<;>simp<;>omega) ?_);refine ag (rS 10 ?_);refine rJ (ag (rM 6 ?_));refine zE (zM ?_)
     first
     | exact ⟨rfl,_,zZ rfl rfl,E0,by unfold textS;rw [ct s];rfl⟩
     | exact ⟨rfl,_,zZ rfl rfl,E0,by unfold textS;rw [cD s,fu];rfl⟩
   . have s:q.den=1:=by
      have L:dl=0:=by have:=de G;omega
      have V:=H.1 L;have h3:=q.den_pos;split at V
      . assumption
      . omega
     refine sk (rJ (ag (rM 6 ?_)));refine zE (zM ?_)
     first
     | exact ⟨rfl,_,zZ rfl rfl,E0,by unfold textS;rw [ct s];rfl⟩
     | exact ⟨rfl,_,zZ rfl rfl,E0,by unfold textS;rw [cD s,fu];rfl⟩
variable {i:Nat} {p q:Poly} {u:Value} {x y:Rat}
theorem zBV:prog.underlying 48=some (.slice 2):=kR
theorem zu:zBH prog 48 2 1:=pU
theorem info2':(prog.info? 2).map (fun i=>(i.zero,i.size))=some (some (.int .i64 0),1):=kR
theorem zBq:Plain prog 2:=pU
theorem under41:prog.underlying 41=some (.slice 54):=kR
theorem info54':(prog.info? 54).map (fun i=>(i.zero,i.size))=some (some (.agg #[S [],S [],S [],S []]),4):=kR
def intL (l:List Int):Poly:=l.map fun n=>((n:Int):Rat)
theorem intL_take {l:List Int} (h:i<l.length):intL (l.take (i+1))=intL (l.take i)++[((l.getD i 0:Int):Rat)]:=by
 unfold intL;rw [dG h,eK,cC,cY h];rfl
theorem zMD:rcmpI x y=0↔x=y:=by
 constructor
 . intro h;exact fH fun e=>zRA e h
 . intro h;subst h;unfold rcmpI;rw [ct gR,cD rfl]
theorem zMy {l:List Int} (H:Blk w b 2 (l.map fun n => .int .i64 n)) (L:l.length<4096) (I:∀ n∈l,-9223372036854775808<=n/\n<=9223372036854775807):Ret prog 63 #[.slice (some ⟨b,0,none⟩) l.length l.length] w (fun r w'=>IsOwn w.heap.size w' r (intL l)):=by
 refine J0 20 func63 rfl (rj (ag (rM 1 ?_)));refine rj (ag (rM 9 ?_));refine zA (rj (ag (rM 25 ?_)));refine zF (zX (X:=Nat) (fun i ρ w'=>∃ F,Keep ρ [(0,.slice (some ⟨b,0,none⟩) l.length l.length),(3,F),(4,.int .i64 (i:Int))]/\i<=l.length/\Ext w w'/\AccP w.heap.size w' F (intL (l.take i))) (fun i=>l.length-i) 0 ⟨_,(kp rfl),di _,E0,AccP.nil⟩ ?_);rintro i ρ1 w1 ⟨F,J,M,E0,s⟩;refine wpe_k _ J ?_;refine zA (rJ (mv (K1 (zG zu rfl (K8 rfl (rM 281 ?_))))));refine K0 rfl ?_ ?_<;>intro hc
 . have D:i<l.length:=t_lt hc;refine sk (zA (zF (rI (mv (mv (K1 (zH zu rfl rfl oM oM ?_)))))));have hbd:=I (l.getD i 0) (by rw [cC,cY D];exact fD D);refine K1 (zD (v := .int .i64 (l.getD i 0)) zBq rfl (H.ext E0) (by rw [fS,dW,fT,fC,cC,cY D];rfl) ?_);refine K1 (j1 E0 s.ext yB (zDC hbd.1 hbd.2) fun v16 w2 E0 s h => ?_);obtain ⟨z,d16,rfl,A,C⟩:=h;have h:IsNum _ (.agg #[.bool (decide (((l.getD i 0:Int):Rat)<0)),z,d16]) ((l.getD i 0:Int):Rat):=⟨_,_,rfl,A,C⟩;refine K1 (zi (cs:=[.bool (decide (((l.getD i 0:Int):Rat)<0)),z,d16]) zAs info37' dE dE kR fun sb w10 hb hE hBb hs => ?_);obtain ⟨E0,s,h⟩:=V2 hE E0 s.ext h.ext;refine K1 (zGW s rfl hBb h (by unfold intL;simp;omega) E0.size fun v18 w11 hX G => ?_);replace E0:=hX.ext (cX _) E0;refine ag (rl (zN (zK (K5 [0,3,4] ?_))));refine rI (K1 (zg (b:=1) (i+1) rfl rfl rfl oM (ag (rl (zL ?_)))));exact ⟨rfl,i+1,⟨_,(kp rfl),oM,E0,by rw [intL_take D];exact G⟩,oM⟩
 . obtain rfl:i=l.length:=by have:=f_lt hc;omega
   rw [ej] at s;refine zT (zt (zf (zI (zK (rJ (ag (rM 21 ?_)))))));refine zE (zM ?_);exact ⟨rfl,_,zZ rfl rfl,E0,s.own (by unfold intL;simp;omega)⟩
theorem equal_ok (J:IsPoly w u p) (L:IsPoly w v q) (A:p.length=q.length->∀ i,i<p.length->rroom (p.getD i 0) (q.getD i 0)=true):Ret prog 21 #[u,v] w (fun r _=>r = .bool (decide (p=q))):=by
 obtain ⟨pp,M,rfl,aa,D,ab⟩:=J;obtain ⟨Q,U,rfl,ad,F,ae⟩:=L;refine J0 27 func21 rfl (rj (ag (rM 3 ?_)));refine zA (rJ (K1 (zG zAC rfl (mv (K1 (zG zAC rfl (K8 rfl (rM 1027 ?_))))))));refine K0 rfl ?_ ?_<;>intro hc
 . have G:p.length≠q.length:=by have:=fO.1 hc;omega
   refine rj (ag (rM 19 ?_));exact zE (zU (en rfl E0 (cW Value.bool (cU (fun e=>G (by rw [e]))).symm)))
 . have s:p.length=q.length:=by have:=fP.1 hc;omega
   refine sk (zA (rj (ag (rM 35 ?_))));refine zF (zX (X:=Nat) (fun i ρ w'=>Keep ρ [(0,.slice pp p.length M),(1,.slice Q q.length U),(5,.int .i64 (i:Int))]/\i<=p.length/\Ext w w'/\∀ j,j<i->p.getD j 0=q.getD j 0) (fun i=>p.length-i) 0 ⟨(kp rfl),di _,E0,fun j H=>absurd H oM⟩ ?_);rintro i ρ1 w1 ⟨h,ah,E0,z⟩;refine wpe_k _ h ?_;refine zA (rJ (mv (K1 (zG zAC rfl (K8 rfl (rM 16419 ?_))))));refine K0 rfl ?_ ?_<;>intro hc
   . have C:i<p.length:=t_lt hc;refine sk (zA (zF (zA ?_)));have hpP1:=D.ext E0;have hqP1:=F.ext E0;refine zAe [[0],[10],[3,1],[1],[2],[10],[3,1],[1],[9,1],[1]] mixed kR fun K hK=>dM aL (dM aL (du (fun hE h=>runs_pindex (hpP1.ext hE) h.1 h.2.1 C eR) (dc (fun hE h=>runs_pload (hpP1.ext hE) C h.1 fun _=>eX) (dM aL (dM aL (du (fun hE h=>runs_pindex (hqP1.ext hE) h.1 h.2.1 oM eR) (dc (fun hE h=>runs_pload (hqP1.ext hE) oM h.1 fun _=>eX) (du (fun hE h=>zJ yB (CallK.of_ret (zEI h.1 h.2.1 (A s i C)) fun v w2 V A=>⟨V,A⟩) rfl) (du (fun hE h=>zC h.1 rfl rfl eR) (zAJ (hK _ fun wq hE => ?_)))))))))));rintro _ rfl _ rfl v19 N19 v20 N20 _ rfl _ rfl v23 N23 v24 N24 _ rfl _ rfl;refine zY ?_;replace E0:=E0.trans hE;refine zK (K5 [0,1,5,26] ?_);refine K0 rfl ?_ ?_<;>intro hc
     . have he:p.getD i 0≠q.getD i 0:=fun e=>(fO.1 hc) (zMD.2 e);refine rj (ag (rM 51 ?_));exact zE (zd (zU (zAP (zd (zU (en rfl E0 (cW Value.bool (cU (fun e=>he (by rw [e]))).symm)))))))
     . have he:p.getD i 0=q.getD i 0:=zMD.1 (fP.1 hc);refine zw (zN (zK (rI (K1 (zg (b:=1) (i+1) rfl rfl rfl oM (ag (rl (zL ?_))))))));exact ⟨rfl,i+1,⟨(kp rfl),oM,E0,fun j H=>by by_cases e:j=i;(rw [e];exact he);exact z j oM⟩,oM⟩
   . obtain rfl:i=p.length:=by have:=f_lt hc;omega
     refine zT (zt (zf (zI (zK (rj (ag (rM 51 ?_)))))));refine zE (zM ?_);exact ⟨rfl,_,zZ rfl rfl,E0,cW Value.bool (cZ (gc s fun j I Z=>by have:=z j I;rwa [cC,cC,cY I,cY Z] at this)).symm⟩
end Go.Proofs.YtjiendlfobjanaaGreatDoor
namespace Go.Proofs.YtjiendlfobjanaaGreatDoor
open Go
variable {i k n:Nat}
def padD:Nat->Nat->List UInt8
 | 0,_=>[]
 | k+1,r=>padD k (r/10)++[UInt8.ofNat (48+r%10)]
def dec0 (n:Nat):List UInt8:=if n=0 then [] else Lib.decDigits n
theorem zPd (h:10<=n):Lib.decDigits n=Lib.decDigits (n/10)++[UInt8.ofNat (48+n%10)]:=by
 rw [Lib.decDigits,dif_neg oM]
theorem dec_ne (n:Nat):Lib.decDigits n≠[]:=by
 rw [Lib.decDigits];split
 . simp
 . simp
theorem dec_split (k:Nat):∀ n,10^k<=n->Lib.decDigits n=dec0 (n/10^k)++padD k (n%10^k):=by
 induction k with
 | zero =>
  intro n h;have h0:n≠0:=by have:10^0=1:=rfl;omega
  simp [padD,dec0,h0]
 | succ k s =>
  intro n h;have e:10^(k+1)=10*10^k:=by rw [dB,dm]
  have A:0<10^k:=eq dE;have h10:10<=n:=by rw [e] at h;omega
  have z:10^k<=n/10:=by rw [e] at h;omega
  rw [zPd h10,s _ z,fX,<- e,dU];congr 1;show _=padD k (n%10^(k+1)/10)++[UInt8.ofNat (48+n%10^(k+1)%10)];rw [e,Nat.mod_mul_right_div_self,Nat.mod_mod_of_dvd n (Nat.dvd_mul_right 10 _)]
theorem zOn:∀ k,padD k 0=List.replicate k 48
 | 0=>rfl
 | k+1=>by rw [padD,zOn k,List.replicate_succ'];rfl
theorem zNI:∀ (k r:Nat),0<k->r<10^k->padD k r=List.replicate (k-(Lib.decDigits r).length) 48++Lib.decDigits r/\(Lib.decDigits r).length<=k
 | 0,_,h,_=>absurd h dE
 | k+1,r,_,z=>by
  by_cases h:r<10
  . have e:Lib.decDigits r=[UInt8.ofNat (48+r)]:=by rw [Lib.decDigits,dif_pos h]
    rw [e,padD,show r/10=0 by omega,show r%10=r by omega,zOn];simp
  . have e:=zPd (n:=r) oM;have e2:10^(k+1)=10*10^k:=by rw [dB,dm]
    have s:0<k:=by
     rcases fV k with rfl | s
     . have:10^(0+1)=10:=rfl;omega
     . exact s
    obtain ⟨A,C⟩:=zNI k (r/10) s (by rw [e2] at z;omega);rw [e,padD,A];simp only [dN,et,List.length_nil,dU];refine ⟨?_,oM⟩;rw [show k+1-((Lib.decDigits (r/10)).length+(0+1))=k-(Lib.decDigits (r/10)).length by omega]
theorem padD_len:∀ k r,(padD k r).length=k
 | 0,_=>rfl
 | k+1,r=>by simp [padD,padD_len k]
theorem zOD (C:n≠0):dec0 n=dec0 (n/10^k)++(if n/10^k=0 then dec0 (n%10^k) else padD k (n%10^k)):=by
 have D:0<10^k:=eq dE;by_cases h:n/10^k=0
 . have z:n<10^k:=(Nat.div_eq_zero_iff_lt D).1 h;rw [cD h,h,fL z];simp [dec0]
 . rw [ct h];have A:10^k<=n:=by
    rcases dR n (10^k) with s | s
    . exact absurd (fE s) h
    . exact s
   rw [<- dec_split k n A,dec0,ct C]
theorem dec0_ten (s:n≠0):dec0 n=dec0 (n/10)++[UInt8.ofNat (48+n%10)]:=by
 by_cases h:n<10
 . rw [dec0,ct s,Lib.decDigits,dif_pos h,show n/10=0 by omega,show n%10=n by omega];rfl
 . rw [dec0,ct s,zPd oM,dec0,ct oM]
theorem dec_len_le:∀ (k n:Nat),n<10^(k+1)->(Lib.decDigits n).length<=k+1:=fun k n h=>(zNI (k+1) n (Nat.succ_pos k) h).2
theorem zHU (n:Nat):(Lib.decDigits n).length<=n.log2+1:=by
 rcases fV n with rfl | h
 . rw [Lib.decDigits,dif_pos dE];simp
 . refine dec_len_le _ _ ?_;have s:n<2^(n.log2+1):=Nat.lt_log2_self;exact fm s (gB dE _)
theorem zOm:∀ (k r:Nat),padD (k+1) (r%10^(k+1))=UInt8.ofNat (48+r/10^k%10) :: padD k (r%10^k)
 | 0,r=>by
  show padD 0 _++[UInt8.ofNat (48+r%10^1%10)]=UInt8.ofNat (48+r/1%10) :: [];rw [Nat.pow_one,Nat.mod_mod,fI];rfl
 | k+1,r=>by
  have e:10^(k+1+1)=10*10^(k+1):=by rw [dB,dm]
  have h:10^(k+1)=10*10^k:=by rw [dB,dm]
  show padD (k+1) (r%10^(k+1+1)/10)++[UInt8.ofNat (48+r%10^(k+1+1)%10)]=_ :: (padD k (r%10^(k+1)/10)++[UInt8.ofNat (48+r%10^(k+1)%10)]);have h1:r%(10*10^(k+1))/10=r/10%10^(k+1):=Nat.mod_mul_right_div_self ..;have h2:r%(10*10^k)/10=r/10%10^k:=Nat.mod_mul_right_div_self ..;rw [e,h1,Nat.mod_mod_of_dvd _ (Nat.dvd_mul_right 10 _),zOm k (r/10),fX,<- h,h,h2,Nat.mod_mod_of_dvd _ (Nat.dvd_mul_right 10 _)];rfl
theorem zOE:dec0 0=[]:=rfl
theorem zJf (h:n≠0):dec0 n=Lib.decDigits n:=ct h
def zJM (h:Bool) (r i:Nat) (part:List UInt8):Prop:=if h then part=padD i (r%10^i) else dec0 r=dec0 (r/10^i)++part
theorem frontD_0 (h:Bool) (r:Nat):zJM h r 0 []:=by
 unfold zJM;split
 . rw [padD]
 . simp
theorem zKY {s:Bool} {r:Nat} {part:List UInt8} (h:zJM s r i part) (z:s=true\/0<r/10^i):zJM s r (i+1) (UInt8.ofNat (48+r/10^i%10) :: part):=by
 unfold zJM at h ⊢;cases s with
 | true =>
  simp only [ga] at h ⊢;rw [zOm,h]
 | false =>
  simp only [ew,fY,false_or] at h z ⊢;rw [h,dec0_ten (n:=r/10^i) oM,fX,<- dB,dU];rfl
theorem zLo {part:List UInt8} (A:n≠0) (h:zJM (decide (n/10^9≠0)) (n%10^9) i part) (z:i=9\/(n/10^9=0/\n%10^9/10^i=0)):dec0 n=dec0 (n/10^9)++part:=by
 rw [zOD (k:=9) A];congr 1;unfold zJM at h;by_cases s:n/10^9=0
 . rw [cD s];simp only [s,ne_eq,not_true_eq_false,iG,ew,fY] at h;have:n%10^9/10^i=0:=by
    rcases z with rfl | ⟨_,h⟩
    . exact fE (eE _ dE)
    . exact h
   rw [h,this];rfl
 . rw [ct s];simp only [s,ne_eq,not_false_eq_true,iM,ga] at h;rcases z with rfl | ⟨C,_⟩
   . rw [h,Nat.mod_mod]
   . exact absurd C s
end Go.Proofs.YtjiendlfobjanaaGreatDoor
namespace Go.Proofs.YtjiendlfobjanaaGreatDoor
open Go Go.RowKit Go.Proofs Tryz Go.Shelf Go.Sort
variable {E N b b2 c cap e n o:Nat} {K K':Value->World->Prop} {P:Program} {T ty:TypeId} {af:Array Edge} {args:Array Value} {cs:List Value} {f:FuncId} {g:Option (Nat×Bool)} {pos:String} {ps:List (List UInt8)} {r:Option Nat} {v:Value} {w w':World} {α:Type} {σ:Operand->Value}
def StrB (sz:Nat) (w:World) (v:Value) (ps:List (List UInt8)):Prop :=
 ∃ p c,v = .slice p ps.length c/\ps.length<=c/\((ps=[]/\p=none/\c=0)\/∃ b cs,p=some ⟨b,0,none⟩/\sz<=b/\Blk w b 9 cs/\cs.length=c/\cs.take ps.length=ps.map S)
theorem StrB.nil (sz:Nat) (w:World):StrB sz w (.slice none 0 0) []:=⟨none,0,rfl,cX _,.inl ⟨rfl,rfl,rfl⟩⟩
theorem StrB.ext {sz:Nat} (h:StrB sz w v ps) (s:Ext w w'):StrB sz w' v ps:=by
 obtain ⟨p,c,z,A,C⟩:=h;refine ⟨p,c,z,A,?_⟩;rcases C with h | ⟨b,cs,D,F,G,H,I⟩
 . exact .inl h
 . exact .inr ⟨b,cs,D,F,G.ext s,H,I⟩
structure Near (sz:Nat) (w w':World):Prop where
 ext:∀ W:World,W.heap.size=sz->Ext W w->Ext W w'
 words:∀ v n,IsW w v n->IsW w' v n
theorem Near.of_ext {sz:Nat} (h:Ext w w'):Near sz w w':=⟨fun _ _ s=>s.trans h,fun _ _ z=>z.ext h⟩
theorem Near.of_upd {sz:Nat} (h:Upd b w w') (s:Blk w b 9 cs) (C:sz<=b):Near sz w w' :=
 ⟨fun _ e z=>z.upd h oM,fun _ _ A=>A.upd h s dE⟩
theorem splice_one_take (v:Value) (h:n<cs.length):(zBr cs n [v]).take (n+1)=cs.take n++[v]:=by
 show (cs.set n v).take (n+1)=_;rw [dG (by rw [ff];exact h),gQ (cX n),List.getElem_set_self]
section laws
variable {d:Option Tmp}
theorem runs_app_str {sz c2:Nat} {x y:Operand} {s:List UInt8} (H:σ x=v) (hA:StrB sz w v ps) (I:σ y = .slice (some ⟨b2,0,none⟩) 1 c2) (J:Blk w b2 9 [S s]) (hl:ps.length<=1099511627776) (hs:sz<=w.heap.size)
 (L:∀ M w',Near sz w w'->StrB sz w' M (ps++[s])->K M w'):Runs prog r ⟨d,.call { callee := .builtin .append,args := #[x,y],argTypes := #[304,304] },ty,pos,af,g⟩ σ w K:=by
 obtain ⟨p,c,h1,h2,Q⟩:=hA;have e:v = .slice p ps.length c:=h1;subst e;by_cases hc:ps.length+1<=c
 . rcases Q with ⟨_,_,z⟩ | ⟨b,cs,A,D,z,U,F⟩
   . omega
   . subst A;refine zAz (n:=1) zEx zEx info9 H I z (Cells.blk J) rfl hc oM rfl fun w' hU hN=>L _ _ (Near.of_upd hU z D) ⟨_,c,sM,by simpa using hc,.inr ⟨b,_,rfl,D,hN,by rw [zAu];exact U,?_⟩⟩;rw [dW,fT,dN,show [s].length=1 from rfl,splice_one_take _ oM,F,eK];rfl
 . have V:=zAc (ps.length+1) c;have hold:Cells w p 9 (ps.map S):=by
    rcases Q with ⟨A,_,_⟩ | ⟨b,cs,A,D,z,U,F⟩
    . subst A;exact .inl rfl
    . exact .inr ⟨b,0,cs,A,z,by rw [dJ,eT];exact F⟩
   refine zAW zEx zEx info9 rfl dE H I hold sM (Cells.blk J) rfl oM oM fun w' Z c' g1 hE G g2 _=>L _ _ (Near.of_ext hE) ⟨_,c',sM,by simpa using g1,.inr ⟨w.heap.size,_,rfl,hs,G,?_,?_⟩⟩
   . rw [g2];simp [Builtin.zeroCells,Value.cells];omega
   . rw [eV sM,dF sM,eK];rfl
theorem zIw {s z:Nat} {x:Operand} {l:List UInt8} (A:prog.underlying s=some (.slice e)) (he:prog.underlying e=some (.int .u8)) (C:prog.underlying z=some .string) (D:σ x = .slice (some ⟨b,o,none⟩) n cap) (F:n=l.length) (G:Blk w b T cs)
 (H:∀ j (h:j<l.length),cs[o+j]? = some (.int .u8 (l[j].toNat:Int))) (I:K (S l) w):Runs prog r ⟨d,.convert s z x,ty,pos,af,g⟩ σ w K:=by
 subst F;refine zy (fun _ e=>by cases e) ?_ I;have:=run_convert_bytes_back (P:=prog) w s z e ⟨b,o,none⟩ cap l A he C (fun j hj=>by rw [zAm,G.cell];exact H j hj);simp [execOp,D,this]
end laws
theorem putCells_list [Inhabited α] (enc:α->Value) (d:Array α) (cs:List Value) (h:d.size<=cs.length):(putCells enc 0 d ⟨cs⟩).toList=d.toList.map enc++cs.drop d.size:=by
 refine gw fun k => ?_;unfold putCells;rw [Array.getElem?_toList,Array.getElem?_mapIdx];by_cases hk:k<d.size
 . have:cs[k]? = some cs[k]:=by simp
   rw [eS (by simpa using hk)];simp [hk,this,getElem!_pos]
 . rw [fJ (by simp;omega)];simp only [di,true_and,dW,ct hk,fN,dJ,Array.length_toList];rw [show d.size+(k-d.size)=k by omega];simp
theorem zMA [Inhabited α] (enc:α->Value) (d:Array α) (h:Blk w b T cs) (D:d.size<=cs.length) (w':World) (e:w'=(putRow enc w b 0 d).drewN n\/w'=putRow enc (Go.Sort.ahead w n) b 0 d):Upd b w w'/\Blk w' b T (d.toList.map enc++cs.drop d.size):=by
 have F:w.heap[b]? = some (.cells ⟨cs⟩ T (0,0)):=h;have z:w'.heap=w.heap.modify b (onCells (putCells enc 0 d))/\w'.os=w.os/\w'.tape=w.tape/\w'.output=w.output:=by
  rcases e with rfl | rfl<;>exact ⟨rfl,rfl,rfl,rfl⟩
 have s:∀ k,w'.heap[k]? = if b=k then (w.heap[k]?).map (onCells (putCells enc 0 d)) else w.heap[k]? := fun k=>by
  rw [z.1,Array.getElem?_modify]
 have A:Blk w' b T (d.toList.map enc++cs.drop d.size):=by
  show w'.heap[b]? = _;rw [s,cD rfl,F,<- putCells_list enc d cs D];rfl
 refine ⟨⟨z.2.1,z.2.2.1,z.2.2.2,by rw [z.1];simp,fun k C=>by rw [s,ct (eH C)],fun T G C => ?_⟩,A⟩;obtain ⟨rfl,rfl⟩:=h.inj C;exact ⟨_,A⟩
theorem zOV [Inhabited α] (enc:α->Value) (d:Array α) (h:Blk w b T cs) (z:cs.take d.size=d.toList.map enc):Holds enc w b 0 d:=fun j s=>by
 refine ⟨?_,?_⟩
 . rw [Blk.cell h,dW,<- List.getElem?_take_of_lt s,z];simp [s]
 . unfold World.frozen?;rw [show w.heap[(⟨b,0+j,none⟩:Addr).block]? = _ from h];simp
theorem zTQ:encStr=S:=by funext l;rfl
theorem revS_ok {sz:Nat} (h:StrB sz w v ps) (z:ps≠[]) (L:ps.length<=1099511627776):CallK prog 242 #[v] w (fun _ w'=>Near sz w w'/\StrB sz w' v ps.reverse):=by
 obtain ⟨p,c,rfl,C,D⟩:=h;rcases D with ⟨e,_⟩ | ⟨b,cs,rfl,A,s,M,F⟩
 . exact absurd e z
 . have G:=Tryz.slices_Reverse_string b 0 c ps w (zOV encStr _ s (by rw [zTQ];simpa using F)) oM;refine Calls.mono G ?_;rintro e w' ⟨rfl,n,H⟩;obtain ⟨I,J⟩:=zMA encStr _ s (by simp;omega) w' (.inr H);refine ⟨_,rfl,Near.of_upd I s A,_,c,sM,by simpa using C,.inr ⟨b,_,rfl,A,J,?_,?_⟩⟩
   . simp;omega
   . rw [eV sM,dF sM,zTQ]
theorem join_nil_sep (ps:List (List UInt8)):Lib.join ps []=ps.flatten:=by
 cases ps with
 | nil=>rfl
 | cons x r=>rw [Lib.join_cons];simp [Lib.joinTail]
theorem joinS_ok {sz:Nat} (h:StrB sz w v ps) (z:ps≠[]) (M:ps.length<=1099511627776) (F:ps.flatten.length<=140737488355328):Ret prog 243 #[v,S []] w (fun r _=>r=S ps.flatten):=by
 obtain ⟨p,c,rfl,G,H⟩:=h;rcases H with ⟨e,_⟩ | ⟨b,cs,rfl,Q,C,U,I⟩
 . exact absurd e z
 . have J:(ps.map fun l=>(⟨l.toArray⟩:ByteArray)).map (·.data.toList)=ps:=by
    rw [iF]
    conv=>rhs;rw [<- List.map_id ps]
    exact List.map_congr_left fun l _=> sM
   have s:Lib.join ((ps.map fun l=>(⟨l.toArray⟩:ByteArray)).map (·.data.toList)) (⟨#[]⟩:ByteArray).data.toList=ps.flatten:=by
    rw [J];exact join_nil_sep ps
   have:=Tryz.strings_Join b 0 c (ps.map fun l=>⟨l.toArray⟩) ⟨#[]⟩ w (fun j y hy=>by
    have A:j<ps.length:=by
     have:=(dY.1 hy).1;simpa using this
    rw [Blk.cell C,dW,<- List.getElem?_take_of_lt A,I];simp only [fC] at hy ⊢;cases D:ps[j]? with
    | none=>rw [D] at hy;cases hy
    | some l=>rw [D] at hy;cases hy;rfl) C.lt (by simp;omega) (by simpa using G) (by rw [s];exact F)
   rw [s,dJ] at this;exact this.mono fun e w' ⟨he,L⟩=>⟨_,he,L,rfl⟩
theorem zMF:∀ n,Lib.repeatL [48] n=List.replicate n (48:UInt8)
 | 0=>rfl
 | n+1=>by rw [Lib.repeatL,zMF n];rfl
theorem row_num {u A:Nat} {s:Array UInt8} (h:Lib.FmtInv (Lib.nDigits u) u 0 A s) (j:Nat) (z:j<(Lib.decDigits u).length):(Lib.decDigits u)[j]=s[j]! := by
 have C:j<Lib.nDigits u:=by rw [Lib.decDigits_length] at z;exact z
 rw [h.done j (di _) C];simp only [Lib.decDigits_eq u,List.getElem_map,List.getElem_range]
theorem repeat0_ok (s:c<=100):Ret prog 241 #[S [48],.int .i64 (c:Int)] w (fun r _=>r=S (List.replicate c 48)):=by
 have:=Tryz.strings_Repeat ⟨[48].toArray⟩ c w oM (by show 1*c<=_;omega);have e:Lib.repeatL (⟨[48].toArray⟩:ByteArray).data.toList c=List.replicate c 48:=zMF c;rw [e] at this;exact this.mono fun e w' ⟨he,h⟩=>⟨_,he,h,rfl⟩
def Pow10 (w:World):Prop:=Lib.TabIs prog w "internal/strconv.uint64pow10" .u64 Lib.pow10Tab
theorem Pow10.ext (h:Pow10 w) (A:Ext w w'):Pow10 w':=by
 unfold Pow10 Lib.TabIs World.var? at *;cases z:prog.globalNamed "internal/strconv.uint64pow10" with
 | none=>rw [z] at h;cases h
 | some g =>
  rw [z] at h;simp only [Option.bind_some] at h ⊢;cases s:w.heap[g]? with
  | none=>rw [s] at h;simp at h
  | some o=>rw [A.heap s];rw [s] at h;exact h
theorem CallK.weak (h:CallK P f args w K) (s:∀ v w',K v w'->K' v w'):CallK P f args w K':=by
 unfold CallK at *;exact Calls.mono h fun _ _ ⟨v,e,q⟩=>⟨v,e,s v _ q⟩
theorem fmt10_ok {u:Nat} (C:Blk w b 380 (List.replicate 24 (.int .u8 0))) (G:1<=u) (D:u<18446744073709551616):CallK prog 333 #[.slice (some ⟨b,0,none⟩) (Lib.nDigits u) 24,.int .u64 (u:Int)] w (fun _ w'=>Upd b w w'/\∃ cs,Blk w' b 380 cs/\∀ j (h:j<(Lib.decDigits u).length),cs[0+j]? = some (.int .u8 ((Lib.decDigits u)[j].toNat:Int))):=by
 have L:Lib.nDigits u<=20:=by have:=Lib.numDigits_eq u G D;split at this<;>omega
 have H:=zOV (fun (b:UInt8)=>Value.int .u8 (b.toNat:Int)) (Array.replicate (Lib.nDigits u) 0) C (by rw [Array.size_replicate,List.take_replicate,dT oM];simp);have hc:=Tryz.internal_strconv_formatBase10 b 0 24 u (Array.replicate (Lib.nDigits u) 0) w H (by rw [Array.size_replicate];exact Lib.lt_pow_nDigits u) D (by rw [Array.size_replicate];omega);rw [Array.size_replicate] at hc;refine Calls.mono hc ?_;rintro e w' ⟨rfl,n,M,s,I,F⟩;have hsz:=F.size;obtain ⟨J,A⟩:=zMA _ s C (by rw [hsz];simp;omega) w' (.inl I);refine ⟨_,rfl,J,_,A,fun j z => ?_⟩;have hj':j<s.size:=by rw [hsz];rw [Lib.decDigits_length] at z;exact z
 rw [dW,eS (by simpa using hj'),row_num F j z,getElem!_pos s j hj'];simp [hj']
theorem zRp:prog.underlying 380=some (.array 24 5):=kR
theorem zero380:((prog.info? 380).bind (·.zero))=some (.agg (Array.replicate 24 (.int .u8 0))):=kR
theorem numDigits_ok {u:Nat} (h:1<=u) (s:u<18446744073709551616) (z:Pow10 w):Ret prog 332 #[.int .u64 (u:Int)] w (fun r _=>r = .int .i64 (Lib.nDigits u)) :=
 (Tryz.internal_strconv_numDigits u h s w z).mono fun e w' ⟨he,A⟩=>⟨_,he,by rw [A];exact Ext.refl w,rfl⟩
theorem zMG {d:Option Tmp} {T h:Nat} {x s:Operand} (C:P.underlying T=some (.array N E)) (z:(P.info? E).map (·.size)=some 1) (D:σ x = .pointer (some ⟨b,0,none⟩)) (F:σ s = .int .i64 (h:Int)) (H:h<=N) (G:K (.slice (some ⟨b,0,none⟩) h N) w):Runs P r ⟨d,.slice T x none (some s) none,ty,pos,af,g⟩ σ w K:=by
 refine zy (fun _ e=>by cases e) ?_ G;have hl:P.arrayLen T=N:=by simp [Program.arrayLen,C]
 cases s:P.info? E with
 | none=>rw [s] at z;cases z
 | some i =>
  rw [s] at z;simp at z;simp only [execOp,Option.map_none,Option.map_some,D,F];have A:=run_sliceAt_array_h (P:=P) w T ⟨b,0,none⟩ (by simp [Program.arrayLen,Program.elem,C]) .i64 (h:Int) oM (by rw [hl];omega);simp [Program.elem,C,sizeOf,typeInfo,s,z,slicedAt,hl] at A;simp [A,zAm]
end Go.Proofs.YtjiendlfobjanaaGreatDoor
namespace Go.Proofs.YtjiendlfobjanaaGreatDoor
open Go Go.RowKit Go.Proofs Tryz
set_option maxRecDepth 10000
set_option maxHeartbeats 2000000
attribute [local irreducible] Runs WPE CallK Ret
variable {i m n:Nat} {ps:List (List UInt8)} {v:Value} {w:World}
def Fine (n:Nat):Prop:=n.log2<1000000000
theorem Fine.fit (h:Fine n):Fit n:=is h dE
theorem Fine.len (h:Fine n):(Lib.decDigits n).length<=1000000000:=dz (zHU n) h
theorem Fine.le (h:Fine n) (s:m<=n):Fine m:=by
 unfold Fine at *;rcases fV m with rfl | z
 . decide
 . exact eN ((Nat.le_log2 oM).2 (dz ((Nat.le_log2 oM).1 (cX _)) s)) h
theorem ndigits_le {u:Nat} (h:1<=u) (s:u<18446744073709551616):Lib.nDigits u<=20:=by have:=Lib.numDigits_eq u h s;split at this<;>omega
theorem zGZ:prog.underlying 109=some (.slice 5):=kR
theorem under5m:prog.underlying 5=some (.int .u8):=kR
theorem size5:(prog.info? 5).map (·.size)=some 1:=kR
theorem fmt2_all (h:i<18446744073709551616) (A:Pow10 w):Ret prog 298 #[.int .u64 (i:Int),.int .i64 10] w (fun r _=>r=S (Lib.decDigits i)):=by
 refine J0 32 func298 rfl (rj (ag (rM 3 ?_)));refine zA (rJ (K8 rfl (rM 1027 ?_)));refine wct rfl (zA (rJ (K8 rfl (rM 4097 ?_))));refine K0 rfl ?_ ?_<;>intro F
 . have s:i<100:=by have:=dh F;omega
   refine rJ (K1 (zBz under164' under3' rfl ?_));rw [show IntKind.i64.wrap (i:Int)=(i:Int) from zm oM oM];refine K1 (j0 E0 yB (zPH s) fun vi w2 E0 hr => ?_);subst hr;refine ag (rm [4] ?_);exact zE (zU (zU (en rfl E0 rfl)))
 . have s:100<=i:=by have:=de F;omega
   refine sk (rj ?_);refine K1 (zR zero380 fun b w1 I G z J => ?_);obtain ⟨E0,A⟩:=V1 G E0 A.ext;have hge:w.heap.size<=b:=oM
   replace z:Blk _ b 380 (List.replicate 24 (.int .u8 0)):=z;refine rM 33 ?_;refine rJ (K1 (j1 E0 z.ext yB (numDigits_ok oM h A) fun vi w2 E0 z hr => ?_));subst hr;refine ag (rM 97 ?_);refine rj (mv ?_);have hnd:=ndigits_le oM h;refine K1 (zMG zRp size5 rfl rfl oM (mv (K1 (zJ yB (CallK.weak (fmt10_ok z oM h) fun vr w2 hr => ?_) rfl))));obtain ⟨H,cs,C,D⟩:=hr;replace E0:=E0.upd H hge;refine rM 96 ?_;refine rJ (K1 (zMG zRp size5 rfl rfl oM (K1 (zIw zGZ under5m zAM rfl (Lib.decDigits_length i).symm C D (ag (rm [4] ?_))))));exact zE (zU (en rfl E0 rfl))
theorem fmt_all (h:i<18446744073709551616) (s:Pow10 w):Ret prog 240 #[.int .u64 (i:Int),.int .i64 10] w (fun r _=>r=S (Lib.decDigits i)):=by
 refine J0 8 func240 rfl (rj (ag (rM 3 ?_)));refine rJ (mv (K1 (j0 E0 yB (fmt2_all h s) fun A w2 E0 z => ?_)));subst z;refine ag (rm [4] ?_);exact zE (en rfl E0 rfl)
theorem dec0_step18 (h:n≠0):dec0 n=dec0 (n/1000000000000000000)++(if n/1000000000000000000=0 then dec0 (n%1000000000000000000) else padD 18 (n%1000000000000000000)):=zOD (k:=18) h
theorem padD_dec18 {r:Nat} (h:r<1000000000000000000):padD 18 r=List.replicate (18-(Lib.decDigits r).length) 48++Lib.decDigits r/\(Lib.decDigits r).length<=18:=zNI 18 r dE h
theorem grp_le {s:List UInt8} (h:2^(8*ps.length)*m<=n):2^(8*(ps++[s]).length)*(m/1000000000000000000)<=n:=by
 refine dz ?_ h;rw [dN,gf,dV,eM,dt];refine dy _ ?_;omega
theorem zSo (z:m≠0) (h:2^(8*ps.length)*m<=n):8*ps.length<=n.log2:=by
 have s:2^(8*ps.length)<=n:=dz (gh _ oM) h;have h2:0<2^(8*ps.length):=eq dE;exact (Nat.le_log2 oM).2 s
theorem zTH (hx:IsW w v n) (U:Fine n) (hP:Pow10 w):Ret prog 150 #[v] w (fun r _=>r=S (Lib.decDigits n)):=by
 obtain ⟨p,l,c,rfl,J⟩:=hx.form;refine J0 38 func150 rfl (rj (ag (rM 1 ?_)));refine zA (rJ (K1 (zG zj rfl (K8 rfl (rM 513 ?_)))));refine K0 rfl ?_ ?_<;>intro A
 . have F:n=0:=J.1 (by have:=gC A;omega);refine rj (ag (rM 5 ?_));refine zE (zU (zM ?_));exact ⟨rfl,_,zZ rfl rfl,E0,by rw [F,zHT];rfl⟩
 . have F:n≠0:=fun e=>by rw [J.2 e] at A;cases A
   refine sk (rj (ag (rM 9 ?_)));refine zA (zF (zX (X:=Nat×List (List UInt8)) (fun (x:Nat×List (List UInt8)) ρ w'=>∃ va I,Keep ρ [(0,va),(3,I)]/\Ext w w'/\IsW w' va x.1/\StrB w.heap.size w' I x.2/\dec0 x.1++x.2.reverse.flatten=dec0 n/\2^(8*x.2.length)*x.1<=n/\8*x.2.length<=n.log2+8) (fun x=>x.1) (n,[]) ⟨_,_,(kp rfl),E0,hx.ext E0,StrB.nil _ _,sM,sM,sM⟩ ?_));rintro ⟨m,ps⟩ ρ1 w1 ⟨va,I,hk,E0,hA,s,G,z,ae⟩;dsimp only at hA s G z ae;obtain ⟨p1,l1,c1,rfl,L⟩:=hA.form;refine wpe_k _ hk ?_;refine zA (rJ (K1 (zG zj rfl (K8 rfl (rM 4105 ?_)))));refine K0 rfl ?_ ?_<;>intro A
   . have H:m≠0:=fun e=>by have h1:=L.2 e;have:=dh A;omega
     refine sk (zF (rj (mv ?_)));have ah:m<=n:=dz (Nat.le_mul_of_pos_left _ (eq dE)) z;have D:ps.length<=1099511627776:=by have:=zSo H z;have:n.log2<1000000000:=U;omega
     refine K1 (j1 E0 s.ext yB (zQV (b:=1000000000000000000) hA (U.le ah).fit dE dE) fun ao w2 E0 s C => ?_);obtain ⟨q,rfl,h⟩:=C;replace h:IsW _ q (m/1000000000000000000):=h;refine mv (xt rfl (xt rfl (ag (ag (rM 57 ?_)))));refine rJ (K1 (j2 E0 h.ext s.ext yB (fmt_all (fm (eE m dE) dE) (hP.ext E0)) fun vi w2 E0 h s C => ?_));subst C;obtain ⟨qp,ql,qc,rfl,M⟩:=h.form;refine ag (rM 89 ?_);refine zBZ (fun ρ w'=>Keep ρ [(3,I),(4,.slice qp ql qc),(6,S (if m/1000000000000000000=0 then dec0 (m%1000000000000000000) else padD 18 (m%1000000000000000000)))]/\Ext w w'/\IsW w' (.slice qp ql qc) (m/1000000000000000000)/\StrB w.heap.size w' I ps) ?_ ?_
     . refine rJ (K1 (zG zj rfl (K8 rfl (rM 4194393 ?_))));refine K0 rfl ?_ ?_<;>intro A
       . have V:m/1000000000000000000≠0:=fun e=>by have h1:=M.2 e;have:=dh A;omega
         obtain ⟨Q,am⟩:=padD_dec18 (eE m dE);refine rI (K1 (zAD zAM rfl (K1 (zAL (a:=18) (b:=(Lib.decDigits (m%1000000000000000000)).length) (18-(Lib.decDigits (m%1000000000000000000)).length) rfl rfl oM oM (K1 (j2 E0 h.ext s.ext yB (repeat0_ok oM) fun vi w2 E0 h s C => ?_))))));subst C;refine mv ?_;refine K1 (zBm rfl rfl (by simp;omega) ?_);refine ag (rl (zL ?_));exact ⟨rfl,⟨rfl,rfl,rfl,rfl,rfl,by rw [ct V,Q];rfl,trivial⟩,E0,h,s⟩
       . have V:m/1000000000000000000=0:=M.1 (by have:=de A;omega);refine zw (zL ?_);exact ⟨rfl,⟨rfl,rfl,rfl,rfl,rfl,by rw [cD V,zJf (fun e=>H (by have:=fZ m 1000000000000000000;rw [V,e] at this;exact this.symm))];rfl,trivial⟩,E0,h,s⟩
     . skip
       rintro ap w2 ⟨hk,E0,h,s⟩;refine wpe_k _ hk ?_;refine rJ (mv ?_);refine K1 (zi (cs:=[S (if m/1000000000000000000=0 then dec0 (m%1000000000000000000) else padD 18 (m%1000000000000000000))]) zEx info9' dE dE kR fun sb w10 hb hE hBb hs => ?_);obtain ⟨E0,h,s⟩:=V2 hE E0 h.ext s.ext;refine K1 (runs_app_str rfl s rfl hBb D E0.size fun v' w' Z s => ?_);replace E0:=Z.ext _ rfl E0;replace h:=Z.words _ _ h;refine ag (rM 24 ?_);refine rI (ag (rl (zN (zL (⟨rfl,(m/1000000000000000000,ps++[if m/1000000000000000000=0 then dec0 (m%1000000000000000000) else padD 18 (m%1000000000000000000)]),⟨_,_,(kp rfl),E0,h,s,?_,?_,?_⟩,?_⟩)))))
       . rw [List.reverse_append,List.reverse_singleton,List.singleton_append,gn,<- dU,<- dec0_step18 H];exact G
       . exact grp_le z
       . have:=zSo H z;simp;omega
       . show m/1000000000000000000<m;exact Nat.div_lt_self oM dE
   . have H:m=0:=L.1 (by have:=de A;omega);subst H;rw [zOE,gu,zJf F] at G;have hne:ps≠[]:=fun e=>by subst e;exact dec_ne n G.symm
     have aq:ps.reverse.flatten.length<=1000000000:=by rw [G];exact U.len
     have D:ps.length<=1099511627776:=by have:n.log2<1000000000:=U;omega
     refine zT (zt (zf (zI (zK (rJ (K1 (zJ yB (CallK.weak (revS_ok s hne D) fun vr w2 C => ?_) rfl)))))));obtain ⟨Z,s⟩:=C;replace E0:=Z.ext _ rfl E0;refine rM 9 ?_;refine rJ (K1 (j0 E0 yB (joinS_ok s (by simpa using hne) (by simpa using D) oM) fun vi w2 E0 C => ?_));subst C;refine ag (rM 5 ?_);refine zE (zM ?_);exact ⟨rfl,_,zZ rfl rfl,E0,by rw [G];rfl⟩
theorem zJc {q:Rat} (Q:IsNum w v q) (C:Fine q.num.natAbs) (D:Fine q.den) (L:Pow10 w):Ret prog 64 #[v] w (fun r _=>r=S (textS q)):=by
 obtain ⟨n,d,rfl,F,A⟩:=Q;refine J0 22 func64 rfl (rj ?_);refine K1 (zn (Z0 E0 fun I w1 E0 hgb1 h=>ag (rM 2 ?_)));refine zA ?_;replace h:Blk _ I 37 [.bool (decide (q<0)),n,d]:=h;replace F:=F.ext E0;replace A:=A.ext E0;refine K6 (K1 (zB zDF rfl (K1 (zD zAw rfl h rfl (K1 (j3 E0 h.ext F.ext A.ext yB (zTH F C (L.ext E0)) fun U w2 E0 h F A J => ?_))))));subst J;refine ag (rS 10 ?_);refine zBZ (fun ρ w'=>Keep ρ [(1,.pointer (some ⟨I,0,none⟩)),(3,S ((if q<0 then [45] else [])++Lib.decDigits q.num.natAbs))]/\Ext w w'/\Blk w' I 37 [.bool (decide (q<0)),n,d]/\IsW w' d (if q.den=1 then 0 else q.den)) ?_ ?_
 . refine rj (K1 (zB zEK rfl (K1 (zD zCo rfl h rfl (rM 266 ?_)))));refine K0 rfl ?_ ?_<;>intro G
   . have z:q<0:=dh G;refine K6 (mv ?_);refine K1 (zBm (a:=[45]) rfl rfl (by have:=C.len;simp;omega) ?_);refine ag (rl (zL ?_));exact ⟨rfl,⟨rfl,rfl,rfl,by rw [cD z];rfl,trivial⟩,E0,h,A⟩
   . have z:¬ q<0:=de G;refine zw (zL ?_);exact ⟨rfl,⟨rfl,rfl,rfl,by rw [ct z];rfl,trivial⟩,E0,h,A⟩
 . skip
   rintro aa w2 ⟨V,E0,h,A⟩;refine wpe_k _ V ?_;refine zA (rj (K1 (zB zGN rfl (K1 (zD zAw rfl h rfl ?_)))));obtain ⟨dp,dl,dc,rfl,H⟩:=A.form;refine K1 (zG zj rfl (K8 rfl (rM 16394 ?_)));refine K0 rfl ?_ ?_<;>intro G
   . have s:q.den≠1:=fun e=>by
      have M:dl=0:=H.2 (cD e);have:=dh G;omega
     rw [ct s] at A;refine rI (K1 (zB zGN rfl (K1 (zD zAw rfl h rfl (K1 (j0 E0 yB (zTH A D (L.ext E0)) fun U w2 E0 J => ?_))))));subst J;refine K1 (zBm (a:=[47]) rfl rfl (by have:=D.len;simp;omega) ?_);refine K1 (zBm rfl rfl (by have:=C.len;have:=D.len;simp;split<;>simp<;>omega) ?_);refine ag (rS 10 ?_);refine rJ (ag (rM 6 ?_));refine zE (zM ?_)
     first
     | exact ⟨rfl,_,zZ rfl rfl,E0,by unfold textS;rw [ct s];rfl⟩
     | exact ⟨rfl,_,zZ rfl rfl,E0,by unfold textS;rw [cD s,fu];rfl⟩
   . have s:q.den=1:=by
      have M:dl=0:=by have:=de G;omega
      have Z:=H.1 M;have h3:=q.den_pos;split at Z
      . assumption
      . omega
     refine sk (rJ (ag (rM 6 ?_)));refine zE (zM ?_)
     first
     | exact ⟨rfl,_,zZ rfl rfl,E0,by unfold textS;rw [ct s];rfl⟩
     | exact ⟨rfl,_,zZ rfl rfl,E0,by unfold textS;rw [cD s,fu];rfl⟩
end Go.Proofs.YtjiendlfobjanaaGreatDoor
namespace Go.Proofs.YtjiendlfobjanaaGreatDoor
open Go Go.RowKit Go.Proofs Tryz
set_option maxRecDepth 10000
set_option maxHeartbeats 2000000
variable {b:Nat} {w:World}
def aT:BandT:=⟨[48],[49],[51,47,52],[49]⟩
theorem a1:zPZ 3=some ([15,15,6,1],0):=dK
theorem a2:zCf [15,15,6,1]=some ([1/6,12/25,5/6],0):=dK
theorem a3:zJN (intL [-1,0,1])=some ([],180):=dK
theorem a4:zQw (intL [1]) (intL [1,1]) [aT] 5=some (0,1,0):=dK
theorem a5:intL [15,15,6,1]=[15,15,6,1]:=dK
theorem d10 (n:Nat) (h:n<10):Lib.decDigits n=[UInt8.ofNat (48+n)]:=by unfold Lib.decDigits;rw [dif_pos h]
theorem a6:textS (12/25)=[49,50,47,50,53]:=by
 have h:(12/25:Rat).num.natAbs=12:=dK
 have s:(12/25:Rat).den=25:=dK
 have z:¬ (12/25:Rat)<0:=dK
 unfold textS;rw [h,s,ct z,ct dE];unfold Lib.decDigits;rw [dif_neg dE,dif_neg dE,d10 _ dE,d10 _ dE];rfl
theorem a7:textS 1=[49]:=by
 have h:(1:Rat).num.natAbs=1:=dK
 have s:(1:Rat).den=1:=dK
 have z:¬ (1:Rat)<0:=dK
 unfold textS;rw [h,s,ct z,cD rfl,d10 _ dE];rfl
theorem a8:∀ i,i<4->rroom (([15,15,6,1]:Poly).getD i 0) (([15,15,6,1]:Poly).getD i 0)=true:=dK
theorem mask1 {t:BandT} (s:Blk w b 54 (zLa t)):zLV w (.slice (some ⟨b,0,none⟩) 1 1) [t] :=
 ⟨_,1,rfl,.inr ⟨b,0,_,rfl,s,by simp [zLa],fun i t' h=>by
  have:i=0:=by have:=(dY.1 h).1;simp at this;omega
  subst this;simp at h;subst h;rfl⟩⟩
theorem aLen:∀ (i:Nat) (t:BandT),([aT]:List BandT)[i]? = some t->t.lo.length<1000000000/\t.hi.length<1000000000/\t.least.length<1000000000/\t.most.length<1000000000:=fun i t ht=>by
 have h:i=0:=by have:=(dY.1 ht).1;simp at this;omega
 subst h;simp at ht;subst ht;decide
end Go.Proofs.YtjiendlfobjanaaGreatDoor
namespace Go.Proofs.YtjiendlfobjanaaGreatDoor
open Go Go.RowKit Go.Proofs Tryz
set_option maxRecDepth 10000
set_option maxHeartbeats 2000000
attribute [local irreducible] Runs WPE CallK Ret
variable {w:World}
theorem zQG:Ret prog 14 #[] w (fun r _=>r = .bool true):=by
 refine J0 77 func14 rfl (rj (ag (rm [] ?_)));refine rj (K1 (j0 E0 yB (Bessel_ok a1) fun aa w2 E0 D => ?_));obtain ⟨U,rfl,s⟩:=D;replace s:IsPoly _ U [15,15,6,1]:=s.poly;refine mv (xt rfl (xt rfl (ag (ag (rM 6 ?_)))));refine rJ (K1 (j1 E0 s.ext yB (zHL s a2) fun v16 w2 E0 s D => ?_));obtain ⟨V,rfl,z⟩:=D;replace z:IsPoly _ V [1/6,12/25,5/6]:=z.poly;refine mv (xt rfl (xt rfl (ag (ag (rM 30 ?_)))));refine rj ?_;refine K1 (zi (cs:=[.int .i64 (-1),.int .i64 0,.int .i64 1]) zBV info2' dE dE kR fun x1 H J F hBx1 L => ?_);obtain ⟨E0,s,z⟩:=V2 F E0 s.ext z.ext;refine K1 (j2 E0 s.ext z.ext yB (zMy (l:=[-1,0,1]) hBx1 dE dE) fun v21 w2 E0 s z N21 => ?_);have N21:=N21.poly;refine K1 (j2 E0 s.ext z.ext yB (zNo N21 a3) fun v22 w2 E0 s z D => ?_);obtain ⟨ab,rfl,-⟩:=D
 try clear N21
 refine mv (xt rfl (xt rfl (ag (ag (rM 94 ?_)))));refine rj ?_;refine K1 (zi (cs:=[.int .i64 1]) zBV info2' dE dE kR fun x2 H J F Q L => ?_);obtain ⟨E0,s,z⟩:=V2 F E0 s.ext z.ext;refine K1 (j2 E0 s.ext z.ext yB (zMy (l:=[1]) Q dE dE) fun v27 w2 E0 s z A => ?_);have A:=A.poly;refine K1 (zi (cs:=[.int .i64 1,.int .i64 1]) zBV info2' dE dE kR fun x3 H J F hBx3 L => ?_);obtain ⟨E0,s,z,A⟩:=V3 F E0 s.ext z.ext A.ext;refine K1 (j3 E0 s.ext z.ext A.ext yB (zMy (l:=[1,1]) hBx3 dE dE) fun v29 w2 E0 s z A G => ?_);have G:=G.poly;refine K1 (zV (cs:=(zLa aT).toArray) kR ?_);refine K1 (zi (cs:=zLa aT) under41 info54' dE dE kR fun xm H J F hBm L => ?_);obtain ⟨E0,s,z,A,G⟩:=V4 F E0 s.ext z.ext A.ext G.ext;refine K1 (j2 E0 s.ext z.ext yB (Meets_ok (fuel:=5) A G (mask1 hBm) aLen dE a4) fun v32 w2 E0 s z D => ?_);obtain ⟨ad,rfl,I⟩:=D;refine mv (xt rfl (xt rfl (xt rfl ?_)));refine K1 (zR zAt fun gb w7 J F hBg L => ?_);have hgg:w.heap.size<=gb:=by rw [J];exact E0.size
 have Z:Ext _ _:=F;obtain ⟨E0,I⟩:=V1 F E0 I.ext;refine ag (K1 (zO rfl I (Cell3.of hBg rfl) fun _ w9 hU C => ?_));replace E0:=E0.upd hU hgg;replace s:=s.updN Z hU hBg oM;replace z:=z.updN Z hU hBg oM;refine ag (rM 990 ?_);refine rJ (K8 rfl (mv (K7 (K2 (zC rfl rfl rfl (pc0 rfl (mv (K7 (K2 (zC rfl rfl rfl (pc0 rfl (mv (K7 (K2 (zC rfl rfl rfl (pc0 rfl ?_))))))))))))))));refine mv (K7 ?_);refine K2 (zi (cs:=[.int .i64 15,.int .i64 15,.int .i64 6,.int .i64 1]) zBV info2' dE dE kR fun x4 H J F hBx4 L => ?_);obtain ⟨E0,s,z,C⟩:=V3 F E0 s.ext z.ext C.ext;refine K2 (j3 E0 s.ext z.ext C.ext yB (zMy (l:=[15,15,6,1]) hBx4 dE dE) fun v53 w2 E0 s z C N53 => ?_);have N53:=N53.poly;rw [a5] at N53;refine K2 (j3 E0 s.ext z.ext C.ext yB ((equal_ok s N53 (fun _ i hi=>a8 i hi)).mono fun _ _ _ h=>h.trans (cW Value.bool (cZ rfl))) fun vi w2 E0 s z C D => ?_);subst D;refine pc0 rfl (mv (K7 ?_));obtain ⟨qp,qc,rfl,ae,M,ah⟩:=z;refine K2 (zG zAC rfl (K2 (zC rfl rfl rfl (pc0 rfl (mv (K7 (K2 (runs_pindex (ix:=1) M rfl rfl dE (K2 (runs_pload (i:=1) M dE rfl fun v64 N64 => ?_))))))))));replace N64:IsNum _ v64 (12/25):=N64
 refine K2 (j1 E0 C.ext yB ((zLX N64 dK dK).mono fun _ _ _ h=>h.trans (cW S a6)) fun vi w2 E0 C D => ?_);subst D;refine K2 (zAk rfl rfl (pc0 rfl (mv (K7 (K2 (zC rfl rfl rfl (pc0 rfl (mv (K2 (zW rfl C fun v73 N73=>K2 (j0 E0 yB ((zLX N73 dK dK).mono fun _ _ _ h=>h.trans (cW S a7)) fun vi w2 E0 D => ?_)))))))))));subst D;refine K2 (zAk rfl rfl (pc0 rfl (ag (rM 1 ?_))));exact zE (en rfl E0 rfl)
end Go.Proofs.YtjiendlfobjanaaGreatDoor
namespace Go.Proofs.YtjiendlfobjanaaGreatDoor.R
open Go Go.RowKit Go.Proofs Tryz
variable {B N0 X Y b c ca d e i j k l2 n o:Nat} {O ds xs ys:List Nat} {T:TypeId} {cs:List Value} {fd:Nat->Nat->Nat->Nat×Nat} {pa:Option Addr} {v:Value} {w w':World}
def nat30:List Nat->Nat
 | []=>0
 | d :: ds=>d+1073741824*nat30 ds
def Dig (ds:List Nat):Prop:=∀ d∈ds,d<1073741824
def Norm (ds:List Nat):Prop:=Dig ds/\ds.getLast?≠some 0
def dv (ds:List Nat):List Value:=ds.map fun (d:Nat) => .int .i64 (d:Int)
def Rd (w:World) (p:Option Addr) (ds:List Nat):Prop :=
 ∀ i,i<ds.length->∃ b o cs,p=some ⟨b,o,none⟩/\Blk w b 2 cs/\cs[o+i]? = some (.int .i64 (ds.getD i 0:Nat))
def IsN (w:World) (v:Value) (n:Nat):Prop:=∃ p ds cap,v = .slice p ds.length cap/\ds.length<=cap/\Rd w p ds/\Norm ds/\nat30 ds=n
theorem Rd.ext {p:Option Addr} (h:Rd w p ds) (s:Ext w w'):Rd w' p ds:=fun i z=>by
 obtain ⟨b,o,cs,A,C,D⟩:=h i z;exact ⟨b,o,cs,A,C.ext s,D⟩
theorem Rd.upd {p:Option Addr} (h:Rd w p ds) (A:Upd b w w') (C:Blk w b T cs) (D:T≠2):Rd w' p ds:=fun i F=>by
 obtain ⟨c,o,s,G,z,H⟩:=h i F;exact ⟨c,o,s,G,z.upd A (fun e=>by subst e;exact D (C.inj z).1),H⟩
theorem Rd.upd' {p:Option Addr} (h:Rd w p ds) (A:Upd b w w') (C:∀ a,p=some a->0<ds.length->a.block≠b):Rd w' p ds:=fun i hi=>by
 obtain ⟨c,o,s,z,D,F⟩:=h i hi;exact ⟨c,o,s,z,D.upd A (C _ z oM),F⟩
theorem Rd.ne {p:Option Addr} (h:Rd w p ds) (C:w.heap.size<=b):∀ a,p=some a->0<ds.length->a.block≠b:=fun a ha hd=>by
 obtain ⟨c,o,A,s,z,D⟩:=h 0 hd;rw [ha] at s;cases s;have:=z.lt;simp only;omega
theorem IsN.ext (h:IsN w v n) (s:Ext w w'):IsN w' v n:=by
 obtain ⟨p,ds,cap,z,A,C,D,F⟩:=h;exact ⟨p,ds,cap,z,A,C.ext s,D,F⟩
theorem IsN.upd (h:IsN w v n) (s:Upd b w w') (z:Blk w b T cs) (A:T≠2):IsN w' v n:=by
 obtain ⟨p,ds,cap,C,D,F,G,H⟩:=h;exact ⟨p,ds,cap,C,D,F.upd s z A,G,H⟩
def NoR (S:List Nat) (w:World):Prop:=∀ b∈S,∃ T cs,Blk w b T cs/\T≠2
theorem NoR.ext {S:List Nat} (h:NoR S w) (z:ExtS S w w'):NoR S w':=fun b A=>by
 obtain ⟨T,cs,C,D⟩:=h b A;obtain ⟨s,F⟩:=z.kind b T cs C;exact ⟨T,s,F,D⟩
theorem Rd.extS {S:List Nat} {p:Option Addr} (h:Rd w p ds) (A:ExtS S w w') (C:NoR S w):Rd w' p ds:=fun i D=>by
 obtain ⟨c,o,s,F,z,G⟩:=h i D;refine ⟨c,o,s,F,z.extS A (fun H => ?_),G⟩;obtain ⟨T,cs,I,J⟩:=C c H;exact J (I.inj z).1
theorem IsN.extS {S:List Nat} (h:IsN w v n) (s:ExtS S w w') (z:NoR S w):IsN w' v n:=by
 obtain ⟨p,ds,cap,A,C,D,F,G⟩:=h;exact ⟨p,ds,cap,A,C,D.extS s z,F,G⟩
theorem nat30_one (d:Nat):nat30 [d]=d:=by
 show d+1073741824*0=d;rw [fW,fw]
theorem zCa:∀ (a b:List Nat),nat30 (a++b)=nat30 a+1073741824^a.length*nat30 b
 | [],b=>by simp [nat30]
 | x :: a,b=>by
  have:=zCa a b;simp only [List.cons_append,nat30,et,dB,this];rw [dV,<- iB];congr 1;rw [<- dt,dm 1073741824]
theorem zDR:∀ (ds:List Nat),Dig ds->nat30 ds<1073741824^ds.length
 | [],_=>by simp [nat30]
 | d :: ds,h=>by
  have s:=zDR ds fun x hx=>h x (by simp [hx]);have h2:=h d sM;simp only [nat30,et,dB];have:nat30 ds+1<=1073741824^ds.length:=s;have:=dy 1073741824 this;rw [dm (_^_)];omega
theorem Dig.take (h:Dig ds) (k:Nat):Dig (ds.take k):=fun d s=>h d (List.mem_of_mem_take s)
theorem Dig.drop (h:Dig ds) (k:Nat):Dig (ds.drop k):=fun d s=>h d (List.mem_of_mem_drop s)
theorem Dig.getD (h:Dig ds) (k:Nat):ds.getD k 0<1073741824:=by
 by_cases s:k<ds.length
 . simp only [cC,cY s,Option.getD_some];exact h _ (fD s)
 . simp [ez (ft s)]
theorem zCv (h:k<ds.length):ds.take (k+1)=ds.take k++[ds.getD k 0]:=by
 rw [dG h];simp [h]
theorem zDS (h:k<ds.length):nat30 (ds.take (k+1))=nat30 (ds.take k)+1073741824^k*ds.getD k 0:=by
 rw [zCv h,zCa];simp [nat30,dT (eU h)]
theorem zCb (ds:List Nat) (k:Nat):nat30 ds=nat30 (ds.take k)+1073741824^(min k ds.length)*nat30 (ds.drop k):=by
 conv=>lhs;rw [<- List.take_append_drop k ds,zCa]
 simp
theorem Norm.lo (h:Norm ds) (s:ds≠[]):1073741824^(ds.length-1)<=nat30 ds:=by
 obtain ⟨_,z⟩:=h;rw [<- List.dropLast_concat_getLast s,zCa];have hne:ds.getLast s≠0:=fun e=>z (by rw [List.getLast?_eq_some_getLast s,e]);have:1<=nat30 [ds.getLast s]:=by simp [nat30];omega
 have:=dy (1073741824^ds.dropLast.length) this;simp at this ⊢;omega
theorem Norm.zero (h:Norm ds):nat30 ds=0↔ds=[]:=by
 constructor
 . intro e;by_cases h0:ds=[]
   . exact h0
   . have:=h.lo h0;have:0<1073741824^(ds.length-1):=eq dE;omega
 . rintro rfl;rfl
theorem Norm.len_lt {a b:List Nat} (s:Dig a) (z:Norm b) (h:a.length<b.length):nat30 a<nat30 b:=by
 have A:=zDR a s;have h2:=z.lo (by rintro rfl;simp at h);have:1073741824^a.length<=1073741824^(b.length-1):=dw dE oM;omega
theorem zOg:∀ (a b:List Nat),Dig a->Dig b->a.length=b.length->nat30 a=nat30 b->a=b
 | [],[],_,_,_,_=>rfl
 | x :: a,y :: b,z,A,C,h=>by
  have F:=z x sM;have hy:=A y sM;simp only [nat30] at h;have h1:x=y:=oM
  have D:nat30 a=nat30 b:=oM
  rw [h1,zOg a b (fun d s=>z d (by simp [s])) (fun d s=>A d (by simp [s])) (by simpa using C) D]
theorem Norm.inj {a b:List Nat} (z:Norm a) (A:Norm b) (h:nat30 a=nat30 b):a=b:=by
 rcases iC a.length b.length with s | s | s
 . have:=Norm.len_lt z.1 A s;omega
 . exact zOg a b z.1 A.1 s h
 . have:=Norm.len_lt A.1 z s;omega
theorem Norm.len_le (h:Norm ds) {L:Nat} (A:(nat30 ds).log2<L):ds.length<=L/30+1:=by
 by_cases s:ds=[]
 . simp [s]
 . have z:=h.lo s;have hne:nat30 ds≠0:=fun e=>s (h.zero.1 e);have h2:=(gd hne).1 A;have h3:(1073741824:Nat)=2^30:=by decide
   rw [h3,<- gL] at z;have C:2^(30*(ds.length-1))<2^L:=eN z h2;have h5:=(gr (by decide:1<2)).1 C;omega
theorem zAO (ds:List Nat):(dv ds).length=ds.length:=by simp [dv]
theorem zST (ds:List Nat) (i d:Nat):(dv ds).set i (.int .i64 (d:Int))=dv (ds.set i d):=by simp [dv,List.map_set]
theorem zDP (ds:List Nat) (i:Nat) (h:i<ds.length):(dv ds)[i]? = some (.int .i64 (ds.getD i 0:Nat)):=by simp [dv,h]
theorem zAp (n:Nat):(List.replicate n [Value.int .i64 0]).flatten=dv (List.replicate n 0):=by
 simp only [dv,List.map_replicate]
 induction n with
 | zero=>rfl
 | succ n h=>simp only [gz,gn,h];rfl
theorem zAq {l:List Nat} (h:Blk w b 2 (zBr (dv l) o [.int .i64 (d:Int)])) (s:o=i):Blk w b 2 (dv (l.set i d)):=by
 subst s;rw [<- zST];exact h
theorem zPk (h:Norm ds):nat30 ds=1↔ds.length=1/\ds.getD 0 0=1:=by
 constructor
 . intro e;have s:Norm [1]:=⟨by intro d A;simp at A;omega,sM⟩;have:=h.inj s (by rw [e];rfl);subst this;exact ⟨rfl,rfl⟩
 . rintro ⟨s,z⟩
   match ds,s with
   | [d],_=>simp at z;subst z;rfl
theorem zDv (h:k<ds.length) (s:ds.getD k 0=0):nat30 (ds.take (k+1))=nat30 (ds.take k):=by
 rw [zDS h,s];simp
theorem zKr (s:Dig ds) (h:k<ds.length) (z:ds.getD k 0≠0):Norm (ds.take (k+1)):=by
 refine ⟨s.take _,?_⟩;rw [zCv h,List.getLast?_append];simpa using z
def zl (fd:Nat->Nat->Nat->Nat×Nat) (xs ys:List Nat):Nat->List Nat×Nat
 | 0=>([],0)
 | i+1=>((zl fd xs ys i).1++[(fd (xs.getD i 0) (ys.getD i 0) (zl fd xs ys i).2).1],(fd (xs.getD i 0) (ys.getD i 0) (zl fd xs ys i).2).2)
theorem zAN (fd:Nat->Nat->Nat->Nat×Nat) (xs ys:List Nat):∀ i,(zl fd xs ys i).1.length=i
 | 0=>rfl
 | i+1=>by simp [zl,zAN fd xs ys i]
theorem zDs (s:Dig xs) (z:Dig ys) (h:∀ x y c,x<1073741824->y<1073741824->c<=1->(fd x y c).2<=1) (i:Nat):(zl fd xs ys i).2<=1:=by
 induction i with
 | zero=>exact di _
 | succ i A=>exact h _ _ _ (s.getD i) (z.getD i) A
theorem Rd.of_blk (h:Blk w b 2 (dv ds)):Rd w (some ⟨b,0,none⟩) ds:=fun i s=>⟨b,0,_,rfl,h,by rw [dW];exact zDP ds i s⟩
theorem Rd.take {p:Option Addr} (h:Rd w p ds) (k:Nat):Rd w p (ds.take k):=fun i z=>by
 have s:i<k/\i<ds.length:=by simp at z;omega
 obtain ⟨b,o,cs,A,C,D⟩:=h i s.2;refine ⟨b,o,cs,A,C,?_⟩;rw [D];simp [s.1]
theorem Norm.fit (h:Norm ds) (s:Fit (nat30 ds)):ds.length<=293203100741:=h.len_le s
def fAdd (x y c:Nat):Nat×Nat:=((x+y+c)%1073741824,(x+y+c)/1073741824)
def fSub (x y b:Nat):Nat×Nat:=((x+1073741824-y-b)%1073741824,if x<y+b then 1 else 0)
theorem zCB {fd:Nat->Nat->Nat->Nat×Nat} (h:∀ x y c,(fd x y c).1<1073741824) (xs ys:List Nat):∀ i,Dig (zl fd xs ys i).1
 | 0=>by intro d s;simp [zl] at s
 | i+1=>by
  intro d s;simp only [zl,gD,dI] at s;rcases s with s | rfl
  . exact zCB h xs ys i d s
  . exact h _ _ _
theorem nat30_take_succ' (ds:List Nat) (k:Nat):nat30 (ds.take (k+1))=nat30 (ds.take k)+1073741824^k*ds.getD k 0:=by
 by_cases h:k<ds.length
 . exact zDS h
 . rw [dF oM,dF oM];simp [ez (ft h)]
theorem zEa (xs ys:List Nat):∀ i,nat30 (zl fAdd xs ys i).1+1073741824^i*(zl fAdd xs ys i).2=nat30 (xs.take i)+nat30 (ys.take i)
 | 0=>by simp [zl,nat30]
 | i+1=>by
  have h:=zEa xs ys i;rw [nat30_take_succ' xs,nat30_take_succ' ys];simp only [zl];rw [zCa,zAN];generalize (zl fAdd xs ys i).2=c at *;generalize xs.getD i 0=x;generalize ys.getD i 0=y;simp only [fAdd,nat30,fW,fw,dB];have hdm:(x+y+c)=(x+y+c)%1073741824+1073741824*((x+y+c)/1073741824):=(Nat.mod_add_div _ _).symm;generalize (x+y+c)%1073741824=r at *;generalize (x+y+c)/1073741824=q at *;generalize 1073741824^i=B at *;grind
theorem zJi {x y:Nat} (s:x<1073741824) (z:y<1073741824) (A:c<=1):(fSub x y c).1+(y+c)=x+1073741824*(fSub x y c).2:=by
 simp only [fSub];by_cases h:x<y+c
 . rw [cD h];omega
 . rw [ct h];omega
theorem zFB (x y c:Nat):(fSub x y c).2<=1:=by
 simp only [fSub];by_cases h:x<y+c
 . rw [cD h];omega
 . rw [ct h];omega
theorem zNd {R x y r q:Nat} (z:R+Y=X+B*c) (h:r+(y+c)=x+1073741824*q):R+B*r+(Y+B*y)=X+B*x+B*(1073741824*q):=by
 have s:B*(r+(y+c))=B*(x+1073741824*q):=by rw [h]
 simp only [dV] at s;omega
theorem zHS (xs ys:List Nat) (z:Dig xs) (A:Dig ys) (i:Nat):nat30 (zl fSub xs ys i).1+nat30 (ys.take i)=nat30 (xs.take i)+1073741824^i*(zl fSub xs ys i).2:=by
 induction i with
 | zero=>simp [zl,nat30]
 | succ i C =>
  have s:=zJi (z.getD i) (A.getD i) (zDs z A (fun x y c _ _ _=>zFB x y c) i);rw [nat30_take_succ' xs,nat30_take_succ' ys];simp only [zl];rw [zCa,zAN,dB,dt];generalize fSub (xs.getD i 0) (ys.getD i 0) (zl fSub xs ys i).2=r at *;generalize (zl fSub xs ys i).2=c at *;have h:=zNd C s;rw [nat30_one];exact h
theorem zGe (s:ys.length<=xs.length):nat30 ((zl fAdd xs ys xs.length).1++[(zl fAdd xs ys xs.length).2])=nat30 xs+nat30 ys:=by
 have h:=zEa xs ys xs.length;rw [ej,dF s] at h;rw [zCa,zAN];simpa [nat30] using h
theorem zIh {x y:Nat} (h:x<1073741824) (s:y<1073741824) (z:c<=1):(fAdd x y c).2<=1:=by
 simp only [fAdd];omega
theorem zJA (z:Dig xs) (s:Dig ys) (A:ys.length<=xs.length) (C:nat30 ys<=nat30 xs):nat30 (zl fSub xs ys xs.length).1=nat30 xs-nat30 ys:=by
 have h:=zHS xs ys z s xs.length;rw [ej,dF A] at h;have h1:=zDR _ (zCB (fd:=fSub) (fun x y c=>eE _ dE) xs ys xs.length);rw [zAN] at h1;have hc:=zDs z s (fun x y c _ _ _=>zFB x y c) xs.length;have h2:=zDR ys s;have h3:1073741824^ys.length<=1073741824^xs.length:=dw dE A;rcases (oM:(zl fSub xs ys xs.length).2=0\/(zl fSub xs ys xs.length).2=1) with h4 | h4
 . rw [h4] at h;omega
 . rw [h4] at h;omega
theorem zMf (s:Dig xs) (z:Dig ys):Dig ((zl fAdd xs ys xs.length).1++[(zl fAdd xs ys xs.length).2]):=by
 intro d h;rw [gD,dI] at h;rcases h with h | rfl
 . exact zCB (fun x y c=>eE _ dE) xs ys _ d h
 . have:=zDs (fd:=fAdd) s z (fun x y c h1 h2 h3=>zIh h1 h2 h3) xs.length;omega
theorem zQD (xs ys:List Nat):Dig ((zl fSub xs ys xs.length).1++[(zl fSub xs ys xs.length).2]):=by
 intro d h;rw [gD,dI] at h;rcases h with h | rfl
 . exact zCB (fun x y c=>eE _ dE) xs ys _ d h
 . have:(zl fSub xs ys xs.length).2<=1:=by
    cases xs.length with
    | zero=>exact di _
    | succ i=>exact zFB _ _ _
   omega
theorem Dig.of_append {a b:List Nat} (h:Dig (a++b)):Dig a:=fun d s=>h d (gK _ s)
theorem zBg (h:k<ds.length):nat30 (ds.drop k)=ds.getD k 0+1073741824*nat30 (ds.drop (k+1)):=by
 rw [dZ h];simp [nat30,h]
theorem nat30_eq_of (G:Dig xs) (H:Dig ys) (z:xs.length=ys.length) (s:k<xs.length) (C:nat30 (xs.drop (k+1))=nat30 (ys.drop (k+1))) :
 (xs.getD k 0=ys.getD k 0->nat30 (xs.drop k)=nat30 (ys.drop k))/\(xs.getD k 0<ys.getD k 0->nat30 xs<nat30 ys)/\(ys.getD k 0<xs.getD k 0->nat30 ys<nat30 xs):=by
 have D:=zBg s;have F:=zBg (ds:=ys) (z ▸ s);have A:∀ (a b:List Nat),Dig a->Dig b->a.length=b.length->k<a.length->nat30 (a.drop k)<nat30 (b.drop k)->nat30 a<nat30 b:=by
  intro a b I J z s h;rw [zCb a k,zCb b k];have h1:=zDR _ (I.take k);simp only [eW,dT (eU s)] at h1;rw [<- z,dT (eU s)];generalize 1073741824^k=B at *;generalize nat30 (a.drop k)=u at *;generalize nat30 (b.drop k)=v at *;have:B*(u+1)<=B*v:=dy _ h;rw [dV,fT] at this;omega
 refine ⟨fun h=>by rw [D,F,h,C],fun h=>A xs ys G H z s ?_,fun h=>A ys xs H G z.symm (z ▸ s) ?_⟩
 . rw [D,F,C];omega
 . rw [D,F,C];omega
theorem zKm:∀ (ds:List Nat) (k d:Nat),k<ds.length->nat30 (ds.set k d)+1073741824^k*ds.getD k 0=nat30 ds+1073741824^k*d
 | x :: ds,0,d,_=>by simp only [List.set_cons_zero,nat30,Nat.pow_zero,eG,List.getD_cons_zero];omega
 | x :: ds,k+1,d,h=>by
  have s:=zKm ds k d (by simpa using h);simp only [io,nat30,List.getD_cons_succ,dB];generalize 1073741824^k=B at *;generalize ds.getD k 0=e at *;have h1:1073741824*(nat30 (ds.set k d)+B*e)=1073741824*(nat30 ds+B*d):=by rw [s]
  rw [dV,dV] at h1;have z:B*1073741824*e=1073741824*(B*e):=by rw [dm B,dt]
  have A:B*1073741824*d=1073741824*(B*d):=by rw [dm B,dt]
  rw [z,A];omega
theorem Dig.set (h:Dig ds) (k:Nat) (z:d<1073741824):Dig (ds.set k d):=fun x A=>by
 rcases List.mem_or_eq_of_mem_set A with s | s
 . exact h x s
 . rw [s];exact z
theorem zCK (n:Nat):Dig (List.replicate n 0):=fun d h=>by rw [List.mem_replicate] at h;omega
theorem zHa:∀ n,nat30 (List.replicate n 0)=0
 | 0=>rfl
 | n+1=>by rw [gz,nat30,zHa n]
theorem zNE {x y z:Nat} (s:i+j<O.length) (h:nat30 O+1073741824^(i+j)*c=N0+1073741824^i*(x*X))
 (A:l2+1073741824*z=x*y+O.getD (i+j) 0+c):nat30 (O.set (i+j) l2)+1073741824^(i+(j+1))*z=N0+1073741824^i*(x*(X+1073741824^j*y)):=by
 have C:=zKm O (i+j) l2 s;rw [<- iB,dB,dV,dV,<- dt x,dm x (_^j),dt (_^j),<- dt (_^i) (_^j),<- eM,dt];generalize 1073741824^(i+j)=B at *;generalize 1073741824^i*(x*X)=M at *;generalize O.getD (i+j) 0=o at *;generalize x*y=xy at *;have h2:B*(l2+1073741824*z)=B*(xy+o+c):=by rw [A]
 simp only [dV] at h2;omega
theorem zKl (s:i+ys.length<O.length) (h:nat30 O+1073741824^(i+ys.length)*c=nat30 (xs.take i)*nat30 ys+1073741824^i*(xs.getD i 0*nat30 ys))
 (A:∀ k,i+ys.length<=k->O.getD k 0=0):nat30 (O.set (i+ys.length) c)=nat30 (xs.take (i+1))*nat30 ys:=by
 have z:=zKm O (i+ys.length) c s;rw [A _ (cX _),fW,fw] at z;rw [z,h,nat30_take_succ',eF,dt]
theorem pow64 (s:Nat):1073741824^s=2^(30*s):=by
 rw [show (1073741824:Nat)=2^30 from by decide,<- gL]
theorem zDB (k:Nat):1073741824^(k/30)*2^(k%30)=2^k:=by
 rw [pow64,<- eM,fZ]
theorem zKz (h:e<30):2^(30-e)*2^e=1073741824:=by
 rw [<- eM,show 30-e+e=30 from by omega]
theorem nat30_drop_div (U:List Nat) (h:Dig U) (s:Nat):nat30 (U.drop s)=nat30 U/1073741824^s:=by
 by_cases A:s<=U.length
 . have C:=zCb U s;rw [dT A] at C;have z:=zDR (U.take s) (h.take s);rw [eW,dT A] at z;rw [C,Nat.add_mul_div_left _ _ (eq dE),fE z,dW]
 . have z:=zDR U h;have h3:1073741824^U.length<=1073741824^s:=dw dE oM;rw [fp oM,fE oM];rfl
theorem zMs {z:Nat} (h:nat30 O*2^e+z%2^e=nat30 xs):nat30 O=nat30 xs/2^e:=by
 have s:0<2^e:=eq dE;rw [<- h,dm,Nat.mul_add_div s,fE (eE _ s),fw]
theorem IsN.nil (h:n=0):IsN w (.slice none 0 0) n:=⟨none,[],0,rfl,cX _,fun i s=>by simp at s,⟨fun d z=>by simp at z,sM⟩,by rw [h];rfl⟩
theorem zKN (s:Dig ds) (h:ds.length<=k/30):nat30 ds/2^k=0:=by
 have z:=zDR ds s;have h2:=zDB k;have h3:1073741824^ds.length<=1073741824^(k/30):=dw dE h;have h4:1<=2^(k%30):=eq dE;have h5:=dy (1073741824^(k/30)) h4;rw [h2] at h5;exact fE oM
theorem zMt:n/1073741824^(k/30)/2^(k%30)=n/2^k:=by
 rw [fX,zDB]
theorem zPg {s:Nat} (A:Rd w pa ds) (h:Norm ds) (H:ds.length<=ca) (I:s<ds.length) :
 ∃ xs z C,ds.length-s=xs.length/\Value.slice (if ca=s then pa else pa.map (fun a=>a.add (s*1))) (ds.length-s) (ca-s)=Value.slice z xs.length C/\Rd w z xs/\Dig xs/\nat30 xs=nat30 ds/1073741824^s:=by
 refine ⟨ds.drop s,if ca=s then pa else pa.map (fun a=>a.add (s*1)),ca-s,sM,sM,?_,h.1.drop s,nat30_drop_div ds h.1 s⟩;intro i hi;rw [gH] at hi;obtain ⟨b,o,cs,D,F,G⟩:=A (s+i) oM;refine ⟨b,o+s,cs,?_,F,?_⟩
 . rw [ct oM,D];simp [zAm]
 . rw [show o+s+i=o+(s+i) from by omega,G];simp
end Go.Proofs.YtjiendlfobjanaaGreatDoor.R
namespace Go.Proofs.YtjiendlfobjanaaGreatDoor.R
open Go Go.RowKit Go.Proofs Tryz
set_option maxRecDepth 10000
set_option maxHeartbeats 2000000
attribute [local irreducible] Runs WPE CallK Ret
variable {a c cap d k m n:Nat} {ds:List Nat} {w:World}
theorem size2:(prog.info? 2).map (·.size)=some 1:=kR
theorem info2:(prog.info? 2).map (fun i=>(i.zero,i.size,i.bytes))=some (some (.int .i64 0),1,8):=kR
theorem zOB {p:Option Addr} (I:ds.length<=cap) (s:Rd w p ds) (C:Dig ds) (J:ds.length<4611686018427387904):Ret prog 264 #[.slice p ds.length cap] w (fun v _=>∃ k,k<=ds.length/\v = .slice p k cap/\Norm (ds.take k)/\nat30 (ds.take k)=nat30 ds):=by
 refine J0 21 func264 rfl (rj (ag (rM 1 ?_)));refine rJ (K1 (zG zu rfl (ag (rM 9 ?_))));refine zA (zF (zX (X:=Nat) (fun k ρ w'=>Keep ρ [(0,.slice p ds.length cap),(3,.int .i64 ((k:Nat):Int))]/\k<=ds.length/\nat30 (ds.take k)=nat30 ds/\Ext w w'/\Rd w' p ds) (fun k=>k) ds.length ⟨(kp rfl),cX _,sM,E0,s⟩ ?_));rintro k ρ1 w1 ⟨L,F,z,E0,s⟩;refine wpe_k _ L ?_;refine zA (zA ?_);rcases k with _ | k
 . skip
   refine rI (K8 rfl (mv (K3 (K3 (K3 (K3 (K3 (K3 (pc0 rfl (rS 65033 ?_))))))))));refine wcf rfl (zT (zt (zf (zI (zK (rJ (mv (K1 (zBa (h:=((0:Nat):Int)) zu rfl rfl oM oM (ag (rM 13 ?_)))))))))));refine zE (zM ?_);exact ⟨rfl,_,zZ rfl rfl,E0,0,di _,rfl,⟨by intro d M;simp at M,sM⟩,z⟩
 . obtain ⟨b,o,cs,rfl,Q,U⟩:=s k oM;have hg0:decide (((k+1:Nat):Int)>0)=true:=by simp only [eA];omega
   have A:(decide (((k+1:Nat):Int)>0)==true)=true:=by rw [hg0];rfl
   have G:IntKind.i64.wrap (((k+1:Nat):Int)-1)=(k:Int):=by rw [zm oM oM];omega
   refine rI (K8 rfl (mv (sr_g A (zAH (sr_g A (zAH (sr_g A (zC rfl rfl rfl (sr_g A (zH (ix:=k) zu rfl (cW (Value.int .i64) G) oM oM (sr_g A (zD zBq rfl Q (by simpa using U) (sr_g A (zC rfl rfl rfl (pc0 (b:=true) (cW Value.bool hg0) (rS 65033 ?_))))))))))))))));refine K0 rfl ?_ ?_<;>intro H
   . have D:ds.getD k 0=0:=t_beq (b:=0) H;refine sk (zF (rI (K8 rfl (ag (rl (zN (zL (⟨rfl,k,⟨⟨rfl,rfl,rfl,cW (Value.int .i64) G,trivial⟩,oM,?_,E0,s⟩,oM⟩))))))));rw [<- z,zDv oM D]
   . have D:ds.getD k 0≠0:=f_beq (b:=0) H;refine zT (zt (zf (zI (zK (rJ (mv (K1 (zBa (h:=((k+1:Nat):Int)) zu rfl rfl oM oM (ag (rM 13 ?_))))))))));refine zE (en rfl E0 ⟨k+1,F,rfl,zKr C oM D,z⟩)
theorem zGK {p:Option Addr} (C:ds.length=n) (s:n<=cap) (h:Rd w p ds) (z:Dig ds) (A:n<4611686018427387904):Ret prog 264 #[.slice p n cap] w (fun v w'=>IsN w' v (nat30 ds)):=by
 subst C;exact (zOB s h z A).mono fun v w' D ⟨k,F,G,C,he⟩=>⟨p,ds.take k,cap,by rw [G];simp [dT F],by simp;omega,(h.ext D).take k,C,he⟩
theorem zHG (w:World):Ret prog 162 #[] w (fun v w'=>IsN w' v 1):=by
 refine J0 2 func162 rfl (rj (ag (rm [] ?_)));refine rj ?_;refine K1 (zi (cs:=[.int .i64 1]) zBV info2' dE dE kR fun b w1 A h s C => ?_);replace E0:=E0.trans h;refine ag (rM 1 ?_);refine zE (en rfl E0 ?_);refine ⟨some ⟨b,0,none⟩,[1],1,rfl,dE,fun i hi => ?_,⟨by intro d z;simp at z;omega,sM⟩,rfl⟩;have:i=0:=by simpa using hi
 subst this;exact ⟨b,0,_,rfl,s,rfl⟩
theorem zCZ {x:Value} (C:IsN w x n):Ret prog 163 #[x] w (fun v _=>v = .bool (decide (n=1))):=by
 obtain ⟨p,ds,cap,rfl,A,s,z,D⟩:=C;have hi:=zPk z;rw [D] at hi;by_cases hl:ds.length=1
 . obtain ⟨d,rfl⟩:∃ d,ds=[d]:=by match ds,hl with | [d],_=>exact ⟨d,rfl⟩
   obtain ⟨b,o,cs,rfl,F,G⟩:=s 0 sM;have E0:Ext w w:=Ext.refl w;refine J0 12 func163 rfl (rj (ag (rM 1 ?_)));refine rJ (K1 (zG zu rfl (K8 rfl (mv (K7 (K2 (zH zu rfl rfl dE sM (K2 (zD zBq rfl F G (K2 (zC rfl rfl rfl (pc0 rfl (ag (rM 4 ?_))))))))))))));refine zE (en rfl E0 ?_);show Value.bool ((d:Int)==1)=_;congr 1;rw [Bool.eq_iff_iff];simp at hi ⊢;omega
 . have h:((((ds.length:Nat):Int)==1)==true)=false:=by simp;omega
   have E0:Ext w w:=Ext.refl w;refine J0 12 func163 rfl (rj (ag (rM 1 ?_)));refine rJ (K1 (zG zu rfl (K8 rfl (mv (zCq h (zCq h (zCq h (zCq h (pc0 rfl (ag (rM 4 ?_)))))))))));refine zE (en rfl E0 ?_);show (if (((ds.length:Nat):Int)==1)=true then _ else Value.bool false)=_;rw [ct (by simp;omega)];congr 1;have:¬ n=1:=fun e=>hl (hi.1 e).1;simp [this]
theorem zEw (s:n<1152921504606846976):Ret prog 248 #[.int .i64 (n:Int)] w (fun v w'=>IsN w' v n):=by
 have h:IntKind.i64.wrap (((n:Nat):Int).tdiv 1073741824)=((n/1073741824:Nat):Int):=zm (by show (-9223372036854775808:Int)<=((n/1073741824:Nat):Int);omega) (by show ((n/1073741824:Nat):Int)<9223372036854775808;omega);refine J0 9 func248 rfl (rj (ag (rM 1 ?_)));refine rJ (K1 (zJt rfl rfl dE (mv (K1 (zCI rfl rfl dE ?_)))));refine K1 (zi (cs:=[.int .i64 (((n:Nat):Int).tmod 1073741824),.int .i64 (IntKind.i64.wrap (((n:Nat):Int).tdiv 1073741824))]) zBV info2' dE dE kR fun b w1 hb hE hB hs => ?_);replace E0:=E0.trans hE;rw [h] at hB;replace hB:Blk w1 b 2 (dv [n%1073741824,n/1073741824]):=hB;refine K1 (j0 E0 yB (zGK (ds:=[n%1073741824,n/1073741824]) rfl (cX _) (Rd.of_blk hB) (by intro d hd;simp at hd;omega) dE) fun v1_5 w1 E0 hr => ?_);rw [show nat30 [n%1073741824,n/1073741824]=n from by simp only [nat30];omega] at hr;refine ag (rM 4 ?_);exact zE (en rfl E0 hr)
theorem zOl {x y:Value} (hx:IsN w x m) (hy:IsN w y n) (hm:Fit m) (hn:Fit n):Ret prog 202 #[x,y] w (fun v _=>∃ c,v = .int .i64 c/\(c = -1\/c=0\/c=1)/\CmpIs c m n):=by
 obtain ⟨pa,xs,ca,rfl,ap,F,A,aa⟩:=hx;obtain ⟨pb,ys,V,rfl,aq,G,C,ab⟩:=hy;subst aa;subst ab;have hlx:=A.fit hm;have hly:=C.fit hn;refine J0 41 func202 rfl (rj (ag (rM 3 ?_)));refine zA (rJ (K1 (zG zu rfl (mv (K1 (zG zu rfl (K8 rfl (rM 1027 ?_))))))));refine K0 rfl ?_ ?_<;>intro hc
 . have J:xs.length<ys.length:=t_lt hc;refine rj (ag (rM 19 ?_));refine zE (zU (en rfl E0 ⟨-1,rfl,.inl rfl,?_⟩));have:=Norm.len_lt A.1 C J;exact ⟨⟨fun _=>this,fun _=>by omega⟩,⟨fun e=>by omega,fun e=>by omega⟩⟩
 . have ar:ys.length<=xs.length:=f_lt hc;refine sk (zA (rJ (K1 (zG zu rfl (mv (K1 (zG zu rfl (K8 rfl (rM 32771 ?_)))))))));refine K0 rfl ?_ ?_<;>intro hc
   . have J:ys.length<xs.length:=t_lt hc;refine rj (ag (rM 19 ?_));refine zE (zU (en rfl E0 ⟨1,rfl,.inr (.inr rfl),?_⟩));have:=Norm.len_lt C.1 A J;exact ⟨⟨fun _=>by omega,fun _=>by omega⟩,⟨fun e=>by omega,fun e=>by omega⟩⟩
   . have au:xs.length<=ys.length:=f_lt hc;have J:xs.length=ys.length:=by omega
     refine sk (zA (rJ (K1 (zG zu rfl (K8 rfl (ag (rM 35 ?_)))))));refine zF (zX (X:=Nat) (fun k ρ w'=>Keep ρ [(0,.slice pa xs.length ca),(1,.slice pb ys.length V),(5,.int .i64 (((k:Nat):Int)-1))]/\k<=xs.length/\nat30 (xs.drop k)=nat30 (ys.drop k)/\Ext w w'/\Rd w' pa xs/\Rd w' pb ys) (fun k=>k) xs.length ⟨⟨rfl,rfl,rfl,rfl,rfl,cW (Value.int .i64) (zm oM oM),trivial⟩,cX _,by rw [J,eO,<- J,eO],E0,F,G⟩ ?_);rintro k ρ1 w1 ⟨hk,av,L,E0,F,G⟩;refine wpe_k _ hk ?_;refine zA (zA ?_);rcases k with _ | k
     . skip
       refine rI (K8 rfl (rS 1048611 ?_));refine wcf rfl (zT (zt (zf (zI (zK (rj (ag (rM 51 ?_))))))));refine zE (en rfl E0 ⟨0,rfl,.inr (.inl rfl),?_⟩);simp only [eT] at L;rw [L];exact ⟨⟨fun h=>by omega,fun h=>by omega⟩,⟨fun _=>rfl,fun _=>rfl⟩⟩
     . obtain ⟨b1,o1,aw,H,s,Q⟩:=F k oM;obtain ⟨b2,o2,ax,I,z,U⟩:=G k oM;have hkey:=nat30_eq_of A.1 C.1 J oM L;have hk0:decide ((((k+1:Nat):Int)-1)≥0)=true:=by simp only [eA];omega
       have ad:IntKind.i64.wrap (((k+1:Nat):Int)-1-1)=((k:Nat):Int)-1:=by rw [zm oM oM];omega
       have D:(((k+1:Nat):Int)-1).toNat=k:=oM
       refine rI (K8 rfl (rS 1048611 ?_));refine wct (cW Value.bool hk0) (sk (zA (zF (zA (zA (zBx 9 mixed kR fun K Z=>qM (qM (qS (fun hE=>zH (b:=b1) (o:=o1) zu (cW (fun p=>Value.slice p xs.length ca) H) rfl oM oM eQ) ?_))))))));refine qS (fun hE=>zD zBq rfl (s.ext hE) (by rw [D];simpa using Q) eQ) ?_;refine qM (qM (qS (fun hE=>zH (b:=b2) (o:=o2) zu (cW (fun p=>Value.slice p ys.length V) I) rfl oM oM eQ) ?_));refine qS (fun hE=>zD zBq rfl (z.ext hE) (by rw [D];simpa using U) eQ) ?_;refine qS (fun hE=>zC rfl rfl rfl eQ) (Z _ fun wq hE=>zAh ?_);obtain ⟨E0,F,G,s,z⟩:=V4 hE E0 F.ext G.ext s.ext z.ext;refine zK (K5 [0,1,5,31] ?_);refine K0 rfl ?_ ?_<;>intro hc
       . have M:xs.getD k 0<ys.getD k 0:=t_lt hc;refine rj (ag (rM 51 ?_));refine zE (zU (zd (zU (zAP (zd (zU (en rfl E0 ⟨-1,rfl,.inl rfl,?_⟩)))))));have:=hkey.2.1 M;exact ⟨⟨fun _=>this,fun _=>by omega⟩,⟨fun e=>by omega,fun e=>by omega⟩⟩
       . have ay:ys.getD k 0<=xs.getD k 0:=f_lt hc;refine sk (zA (zBx 9 mixed kR fun K Z=>qM (qM (qS (fun hE=>zH (b:=b1) (o:=o1) zu (cW (fun p=>Value.slice p xs.length ca) H) rfl oM oM eQ) ?_))));refine qS (fun hE=>zD zBq rfl (s.ext hE) (by rw [D];simpa using Q) eQ) ?_;refine qM (qM (qS (fun hE=>zH (b:=b2) (o:=o2) zu (cW (fun p=>Value.slice p ys.length V) I) rfl oM oM eQ) ?_));refine qS (fun hE=>zD zBq rfl (z.ext hE) (by rw [D];simpa using U) eQ) ?_;refine qS (fun hE=>zC rfl rfl rfl eQ) (Z _ fun wq hE=>zAh ?_);obtain ⟨E0,F,G,s,z⟩:=V4 hE E0 F.ext G.ext s.ext z.ext;refine zK (K5 [0,1,5,40] ?_);refine K0 rfl ?_ ?_<;>intro hc
         . have M:ys.getD k 0<xs.getD k 0:=t_lt hc;refine rj (ag (rM 51 ?_));refine zE (zd (zU (zAP (zd (zU (en rfl E0 ⟨1,rfl,.inr (.inr rfl),?_⟩))))));have:=hkey.2.2 M;exact ⟨⟨fun _=>by omega,fun _=>by omega⟩,⟨fun e=>by omega,fun e=>by omega⟩⟩
         . have az:xs.getD k 0<=ys.getD k 0:=f_lt hc;have heq:xs.getD k 0=ys.getD k 0:=by omega
           exact zw (zN (zK (rI (K8 rfl (ag (rl (zL (⟨rfl,k,⟨⟨rfl,rfl,rfl,rfl,rfl,cW (Value.int .i64) ad,trivial⟩,oM,hkey.1 heq,E0,F,G⟩,oM⟩))))))))
theorem zJp {x y:Value} (h:IsN w x m) (s:IsN w y n) (z:Fit m) (A:Fit n):Ret prog 202 #[x,y] w (fun v _=>∃ c,v = .int .i64 c/\CmpIs c m n) :=
 (zOl h s z A).mono fun _ _ _ ⟨c,C,_,D⟩=>⟨c,C,D⟩
theorem nat30_drop_le (ds:List Nat) (k:Nat):nat30 (ds.drop k)<=nat30 ds:=by
 conv=>rhs;rw [zCb ds k]
 have:1<=1073741824^(min k ds.length):=eq dE;have:=dx (nat30 (ds.drop k)) this;omega
theorem zRY {x:Value} (M:IsN w x n) (hn:n<1152921504606846976):Ret prog 251 #[x] w (fun v _=>v = .int .i64 (n:Int)):=by
 obtain ⟨p,ds,cap,rfl,L,s,C,D⟩:=M;subst D;have hl2:ds.length<=2:=by
  by_cases J:ds=[]
  . subst J;decide
  . have h1:=C.lo J;rcases dR 2 ds.length with h | h
    . have:=dw (dE:0<1073741824) (oM:2<=ds.length-1);omega
    . exact h
 refine J0 20 func251 rfl (rj (ag (rM 1 ?_)));refine rj (ag (rM 9 ?_));refine zA (rJ (K1 (zG zu rfl (K8 rfl (ag (rM 25 ?_))))));refine zF ?_;refine zX (X:=Nat) (fun k ρ w'=>Keep ρ [(0,.slice p ds.length cap),(3,.int .i64 ((nat30 (ds.drop k):Nat):Int)),(4,.int .i64 (((k:Nat):Int)-1))]/\k<=ds.length/\Ext w w'/\Rd w' p ds) (fun k=>k) ds.length ⟨⟨rfl,rfl,rfl,by rw [eO];rfl,rfl,cW (Value.int .i64) (zm oM oM),trivial⟩,cX _,E0,s⟩ ?_;rintro k ρ1 w1 ⟨Q,aa,E0,s⟩;refine wpe_k _ Q ?_;refine zA (zA ?_);rcases k with _ | k
 . skip
   refine rI (K8 rfl (rS 537 ?_));refine wcf rfl (zT (zt (zf (zI (zK (rJ (ag (rM 29 ?_))))))));exact zE (en rfl E0 rfl)
 . obtain ⟨U,V,ab,z,F,G⟩:=s k oM;have hk0:decide ((((k+1:Nat):Int)-1)≥0)=true:=by simp only [eA];omega
   have H:IntKind.i64.wrap (((k+1:Nat):Int)-1-1)=((k:Nat):Int)-1:=by rw [zm oM oM];omega
   have I:(((k+1:Nat):Int)-1).toNat=k:=oM
   have hd:=zBg (oM:k<ds.length);have hdl:=nat30_drop_le ds k;have A:IntKind.i64.wrap (IntKind.i64.wrap (((nat30 (ds.drop (k+1)):Nat):Int)*1073741824)+((ds.getD k 0:Nat):Int))=((nat30 (ds.drop k):Nat):Int):=by
    have Z:IntKind.i64.wrap (((nat30 (ds.drop (k+1)):Nat):Int)*1073741824)=((nat30 (ds.drop (k+1)):Nat):Int)*1073741824:=zm oM oM;rw [Z,zm oM oM];omega
   refine rI (K8 rfl (rS 537 ?_));refine wct (cW Value.bool hk0) (sk (zA (zF (rI (K8 rfl (mv (mv (K1 (zH (b:=U) (o:=V) zu (cW (fun p=>Value.slice p ds.length cap) z) rfl oM oM ?_)))))))));refine K1 (zD zBq rfl F (by rw [I];simpa using G) ?_);refine K8 rfl (ag (rl (zN (zK (K5 [0,3,4] ?_)))));refine rI (K8 rfl (ag (rl (zL (⟨rfl,k,⟨⟨rfl,rfl,rfl,cW (Value.int .i64) A,rfl,cW (Value.int .i64) H,trivial⟩,oM,E0,s⟩,oM⟩)))))
def bitsN (n:Nat):Nat:=if n=0 then 0 else n.log2+1
theorem bitsN_half (h:n≠0):bitsN n=bitsN (n/2)+1:=by
 unfold bitsN;rw [ct h,Nat.log2_def];by_cases s:2<=n
 . rw [cD s,ct oM]
 . rw [ct s,cD oM]
theorem log2_top {top:Nat} (z:a<2^k) (h:top≠0):(a+2^k*top).log2=k+top.log2:=by
 have s:0<2^k:=eq dE;have h1:0<2^k*top:=Nat.mul_pos s oM;rw [Nat.log2_eq_iff oM];have e1:=Nat.log2_self_le h;have e2:=(gd h (k:=top.log2+1)).1 oM;have e3:=dy (2^k) e1;have e4:=dy (2^k) (show top+1<=2^(top.log2+1) from e2);rw [<- eM] at e3 e4;rw [dV,fT] at e4;rw [iB];omega
theorem pow30 (k:Nat):1073741824^k=2^(30*k):=by rw [gL]
theorem bitsN_top (h:Dig ds) (z:ds.length=k+1) (s:ds.getD k 0≠0):bitsN (nat30 ds)=30*k+bitsN (ds.getD k 0):=by
 have e:=zDS (ds:=ds) (k:=k) oM;rw [dF oM] at e;have hlt:=zDR _ (h.take k);rw [eW,dT oM,pow30] at hlt;rw [pow30] at e;have hp:0<2^(30*k)*ds.getD k 0:=Nat.mul_pos (eq dE) oM;rw [e];unfold bitsN;rw [ct oM,ct s,log2_top hlt s];omega
theorem Norm.last (h:Norm ds) (s:ds.length=k+1):ds.getD k 0≠0:=by
 have:=h.2;rw [List.getLast?_eq_getElem?,s,dD] at this;intro e;apply this;rw [cC] at e;rw [cY oM] at e ⊢;simpa using e
theorem bitsN_le:bitsN n<=n:=by
 unfold bitsN;split
 . omega
 . rename_i h;exact (gd h).2 (Nat.lt_two_pow_self)
theorem length_ok {x:Value} (H:IsN w x n) (I:Fit n):Ret prog 308 #[x] w (fun v _=>v = .int .i64 (bitsN n:Nat)):=by
 obtain ⟨p,ds,cap,rfl,G,A,h,C⟩:=H;subst C;have hlx:=h.fit I;rcases fV ds.length with hl0 | hl0
 . obtain rfl:=ef hl0;have E0:Ext w w:=Ext.refl w;refine J0 25 func308 rfl (rj (ag (rM 1 ?_)));refine zA (rJ (K1 (zG zu rfl (K8 rfl (rM 129 ?_)))));refine wct rfl (rj (ag (rM 4 ?_)));exact zE (zU (en rfl E0 rfl))
 . obtain ⟨k,s⟩:∃ k,ds.length=k+1:=⟨ds.length-1,oM⟩;have hlast:=h.last s;have hb1:bitsN (ds.getD k 0)<=1073741824:=dz bitsN_le (eU (h.1.getD k));have hdk:=h.1.getD k;have hw1:IntKind.i64.wrap (((ds.length:Nat):Int)-1)=(k:Int):=by rw [zm oM oM];omega
   obtain ⟨J,L,U,z,D,F⟩:=A k oM;have E0:Ext w w:=Ext.refl w;refine J0 25 func308 rfl (rj (ag (rM 1 ?_)));refine zA (rJ (K1 (zG zu rfl (K8 rfl (rM 129 ?_)))));have hcl:(((ds.length:Nat):Int)==0)=false:=dk.2 oM;refine wcf (cW Value.bool hcl) (sk (rJ (K1 (zG zu rfl (K8 rfl (K8 rfl (ag (rM 9 ?_))))))));refine zA (rJ (mv (K1 (zG zu rfl (K8 rfl (K1 (zH (b:=J) (o:=L) (ix:=(k:Int)) zu (cW (fun p=>Value.slice p ds.length cap) z) (cW (Value.int .i64) hw1) oM oM (K1 (zD zBq rfl D (by simpa using F) (ag (rM 24 ?_)))))))))));refine zF (zX (X:=Nat) (fun t ρ w'=>Keep ρ [(3,.int .i64 ((30*k+bitsN (ds.getD k 0)-bitsN t:Nat):Int)),(4,.int .i64 ((t:Nat):Int))]/\t<=ds.getD k 0/\bitsN t<=bitsN (ds.getD k 0)/\Ext w w') (fun t=>t) (ds.getD k 0) ⟨⟨rfl,?_,rfl,rfl,trivial⟩,cX _,cX _,E0⟩ ?_)
   . show Value.int .i64 (IntKind.i64.wrap (30*IntKind.i64.wrap (((ds.length:Nat):Int)-1)))=_;rw [hw1,zm oM oM];congr 1;omega
   rintro t V w1 ⟨M,Z,aa,E0⟩;refine wpe_k _ M ?_;refine zA (rJ (K8 rfl (rM 524312 ?_)));refine K0 rfl ?_ ?_<;>intro hc
   . have Q:0<t:=t_lt (a:=0) hc;have hhalf:=bitsN_half (oM:t≠0);refine sk (zA (zF (rI (K8 rfl (ag (rl (zN (zK (K5 [3,4] ?_)))))))));refine rI (K1 (zCI rfl rfl dE (ag (rl (zL ?_)))));refine ⟨rfl,t/2,⟨⟨rfl,cW (Value.int .i64) (by rw [zm oM oM];omega),rfl,cW (Value.int .i64) (zm (by show (-9223372036854775808:Int)<=((t/2:Nat):Int);omega) (by show ((t/2:Nat):Int)<9223372036854775808;omega)),trivial⟩,oM,oM,E0⟩,oM⟩
   . have Q:t<=0:=f_lt (a:=0) hc;obtain rfl:t=0:=by omega
     refine zT (zt (zf (zI (zK (rJ (ag (rM 28 ?_)))))));refine zE (en rfl E0 ?_);rw [bitsN_top h.1 s hlast];rfl
theorem zeros_law {r:Nat} (h:n=2^(30*k)*(2^c*d+1073741824*r)) (A:d%2=1) (C:2^c*d<1073741824):2^(30*k+c)∣n/\n/2^(30*k+c)%2=1:=by
 have z:c<30:=by
  have D:2^c*1<=2^c*d:=dy _ oM;exact (gr (by decide:1<2)).1 (oM:2^c<2^30)
 obtain ⟨e,he⟩:∃ e,30=c+(e+1):=⟨29-c,oM⟩;have h30:1073741824=2^c*2^(e+1):=by rw [<- eM,<- he]
 have s:n=2^(30*k+c)*(d+2*(2^e*r)):=by
  rw [h,h30,eM,dB];grind
 refine ⟨⟨_,s⟩,?_⟩;rw [s,ik _ (eq dE)];omega
theorem zNi {x:Value} (hx:IsN w x n) (hf:Fit n) (h0:n≠0):Ret prog 249 #[x] w (fun v _=>∃ z:Nat,v = .int .i64 (z:Int)/\2^z∣n/\n/2^z%2=1):=by
 obtain ⟨p,ds,cap,rfl,ad,s,A,Q⟩:=hx;subst Q;have hlx:=A.fit hf;have hne:ds≠[]:=fun e=>h0 (by rw [e];rfl);have U:0<ds.length:=eC.2 hne;refine J0 26 func249 rfl (rj (ag (rM 1 ?_)));refine rj (ag (rM 9 ?_));refine zA (zF (zX (X:=Nat) (fun k ρ w'=>Keep ρ [(0,.slice p ds.length cap),(3,.int .i64 ((30*k:Nat):Int))]/\k<ds.length/\nat30 (ds.take k)=0/\Ext w w'/\Rd w' p ds) (fun k=>ds.length-k) 0 ⟨(kp rfl),U,rfl,E0,s⟩ ?_));rintro k ρ1 w1 ⟨L,D,G,E0,s⟩;refine wpe_k _ L ?_;obtain ⟨b1,o1,aj,C,H,I⟩:=s k D;have hq:IntKind.i64.wrap (((30*k:Nat):Int).tdiv 30)=(k:Int):=by
  have e:((30*k:Nat):Int).tdiv 30=((30*k/30:Nat):Int):=rfl;rw [e,zm oM oM];omega
 refine zA (rJ (mv (K1 (zCI rfl rfl dE (K1 (zH (b:=b1) (o:=o1) (ix:=(k:Int)) zu (cW (fun p=>Value.slice p ds.length cap) C) (cW (Value.int .i64) hq) oM oM (K1 (zD zBq rfl H (by simpa using I) (K8 rfl (rM 1033 ?_))))))))));refine K0 rfl ?_ ?_<;>intro hc
 . have M:ds.getD k 0=0:=t_beq (b:=0) hc;refine sk (zF (rI (K8 rfl (ag (rl (zN (zL ?_)))))));have hk1:k+1<ds.length:=by
    rcases dR (k+1) ds.length with h | h
    . exact h
    . exact absurd M (A.last oM)
   refine ⟨rfl,k+1,⟨⟨rfl,rfl,rfl,cW (Value.int .i64) (by rw [zm oM oM];omega),trivial⟩,hk1,by rw [zDv D M];exact G,E0,s⟩,oM⟩
 . have M:ds.getD k 0≠0:=f_beq (b:=0) hc;refine zT (zt (zf (zI (zK (zA (rJ (mv (K1 (zCI rfl rfl dE (K1 (zH (b:=b1) (o:=o1) (ix:=(k:Int)) zu (cW (fun p=>Value.slice p ds.length cap) C) (cW (Value.int .i64) hq) oM oM (K1 (zD zBq rfl H (by simpa using I) (ag (rM 25 ?_)))))))))))))));refine zF ?_;have hdk:=A.1.getD k;refine zX (X:=Nat×Nat) (fun q ρ w'=>Keep ρ [(3,.int .i64 ((30*k+q.1:Nat):Int)),(4,.int .i64 ((q.2:Nat):Int))]/\2^q.1*q.2=ds.getD k 0/\q.1<=1073741824/\0<q.2/\q.2+q.1<=1073741824/\Ext w w') (fun q=>q.2) (0,ds.getD k 0) ⟨(kp rfl),sM,di _,by simp only;omega,by simp only;omega,E0⟩ ?_;rintro ⟨c,d⟩ ρ1 w2 ⟨L,F,V,Z,J,E0⟩;simp only at L F V Z J;refine wpe_k _ L ?_;refine zA (rJ (K1 (zJt rfl rfl dE (K8 rfl (rm [3,4,20] ?_)))));refine K0 rfl ?_ ?_<;>intro hc
   . have ak:d%2=0:=t_beq (a:=d%2) (b:=0) hc;refine sk (zA (zF (rI (K8 rfl (ag (rl (zN (zK (K5 [3,4] ?_)))))))));refine rI (K1 (zCI rfl rfl dE (ag (rl (zL ?_)))));refine ⟨rfl,(c+1,d/2),⟨⟨rfl,cW (Value.int .i64) (by rw [zm oM oM];omega),rfl,cW (Value.int .i64) (zm (by show (-9223372036854775808:Int)<=((d/2:Nat):Int);omega) (by show ((d/2:Nat):Int)<9223372036854775808;omega)),trivial⟩,?_,by simp only;omega,by simp only;omega,by simp only;omega,E0⟩,by simp only;omega⟩;simp only;rw [<- F,dB,dt];congr 1;omega
   . have al:d%2≠0:=f_beq (a:=d%2) (b:=0) hc;refine zT (zt (zf (zI (zK (rJ (ag (rM 28 ?_)))))));refine zE (en rfl E0 ⟨30*k+c,rfl,?_⟩);have e1:=zCb ds k;rw [G,dW,dT oM,pow30,zBg D,<- F] at e1;exact zeros_law e1 oM (by have:=A.1.getD k;omega)
variable {K:Value->World->Prop} {P:Program} {b i o sz':Nat} {af:Array Edge} {xs ys:List Nat} {fd:Nat->Nat->Nat->Nat×Nat} {g:Option (Nat×Bool)} {k':IntKind} {pos:String} {r:Option Nat} {t' ty:TypeId} {v:Value} {w':World} {σ:Operand->Value}
section laws
variable {d:Option Tmp} {t:TypeId} {x y:Operand}
theorem zMK {s:Nat} (c:Nat) (z:σ x = .int .i64 (a:Int)) (A:σ y = .int k' (s:Int)) (F:s<=64) (h:a*2^s=c) (G:c<9223372036854775808) (C:K (.int .i64 (c:Int)) w):Runs P r ⟨d,.binOp .shl t x y t',ty,pos,af,g⟩ σ w K:=by
 refine zRT z A oM ?_;have e:min (s:Int).toNat IntKind.i64.bits=s:=by simp [IntKind.bits];omega
 have D:(a:Int)*2^s=(c:Int):=by rw [<- h];simp
 rw [e,D,zm oM oM];exact C
end laws
theorem zRV:((zl fd xs ys i).1++List.replicate (n+1) 0).set i (fd (xs.getD i 0) (ys.getD i 0) (zl fd xs ys i).2).1=(zl fd xs ys (i+1)).1++List.replicate n 0:=by
 have h:=zER (zl fd xs ys i).1 n (fd (xs.getD i 0) (ys.getD i 0) (zl fd xs ys i).2).1;rw [zAN] at h;exact h
theorem set_last:((zl fd xs ys i).1++List.replicate 1 0).set i c=(zl fd xs ys i).1++[c]:=by
 have h:=zER (zl fd xs ys i).1 0 c;rw [zAN] at h;simpa using h
theorem zNL {x y:Value} (hx:IsN w x m) (hy:IsN w y n) (hm:Fit m) (hn:Fit n):Ret prog 199 #[x,y] w (fun v w'=>IsN w' v (m+n)):=by
 obtain ⟨Z,F,aa,rfl,aN,ab,h,aq⟩:=hx;obtain ⟨ad,G,ae,rfl,aO,ah,s,ar⟩:=hy;subst aq;subst ar;have au:=h.fit hm;have av:=s.fit hn;refine J0 55 func199 rfl (rj (ag (rM 3 ?_)));refine zBZ (fun ρ w'=>∃ pa xs ca J ys L,Keep ρ [(0,.slice pa xs.length ca),(1,.slice J ys.length L)]/\w=w'/\Rd w pa xs/\Rd w J ys/\Norm xs/\Norm ys/\ys.length<=xs.length/\nat30 xs+nat30 ys=nat30 F+nat30 G/\xs.length<=293203100741) ?_ ?_
 . refine rJ (K1 (zG zu rfl (mv (K1 (zG zu rfl (K8 rfl (rM 4099 ?_)))))));refine K0 rfl ?_ ?_<;>intro A
   . have ai:=t_lt A;exact rI (mv (ag (ag (rl (zL ⟨rfl,ad,G,ae,Z,F,aa,(kp rfl),rfl,ah,ab,s,h,oM,iH _ _,av⟩)))))
   . have aw:=f_lt A;exact zw (zL ⟨rfl,Z,F,aa,ad,G,ae,(kp rfl),rfl,ab,ah,h,s,aw,rfl,au⟩)
 . rintro ax w1 ⟨pa,xs,ca,J,ys,L,M,rfl,C,D,H,I,ay,ak,aF⟩;refine wpe_k _ M ?_;refine rJ (K1 (zG zu rfl (K1 (zg (b:=1) (xs.length+1) rfl rfl rfl oM ?_))));refine K1 (zAK zBV info2 rfl rfl rfl oM oM oM fun b w1 hb1 hE Q hs => ?_);have aj:w.heap.size<=b:=by rw [hb1];exact E0.size
   have az:=C.ne (dS hb1.symm);have aA:=D.ne (dS hb1.symm);obtain ⟨E0,C,D⟩:=V2 hE E0 C.ext D.ext;rw [show ((xs.length+1:Nat):Int).toNat=xs.length+1 from by omega,show (Value.int IntKind.i64 0).cells.toList=[Value.int IntKind.i64 0] from rfl,zAp] at Q;refine ag (rM 35 ?_);refine rj (ag (rM 99 ?_));refine zA (rj (ag (rM 227 ?_)));refine zF ?_;have hcl:=zDs H.1 I.1 (fd:=fAdd) (fun x y c hx hy A=>zIh hx hy A);refine zX (X:=Nat) (fun i ρ w'=>Keep ρ [(0,.slice pa xs.length ca),(1,.slice J ys.length L),(5,.slice (some ⟨b,0,none⟩) (xs.length+1) (xs.length+1)),(6,.int .i64 ((zl fAdd xs ys i).2:Nat)),(7,.int .i64 (i:Nat))]/\i<=xs.length/\Ext w w'/\Rd w' pa xs/\Rd w' J ys/\Blk w' b 2 (dv ((zl fAdd xs ys i).1++List.replicate (xs.length+1-i) 0))) (fun i=>xs.length-i) 0 ⟨(kp rfl),di _,E0,C,D,Q⟩ ?_;rintro i ax w1 ⟨M,aP,E0,C,D,Q⟩;refine wpe_k _ M ?_;have hci:=hcl i;have hdx:=H.1.getD i;have hdy:=I.1.getD i;refine zA (rJ (mv (K1 (zG zu rfl (K8 rfl (rM 4194531 ?_))))));refine K0 rfl ?_ ?_<;>intro A
   . have ai:i<xs.length:=t_lt A;obtain ⟨b2,o2,aQ,al,aB,aC⟩:=C i ai;refine sk (zA (zF (rJ (mv (mv (K1 (zH (b:=b2) (o:=o2) zu (cW (fun p=>Value.slice p xs.length ca) al) rfl oM oM (K1 (zD zBq rfl aB (by simpa using aC) (K1 (zg ((zl fAdd xs ys i).2+xs.getD i 0) rfl rfl rfl oM (ag (rM 227 ?_)))))))))))));refine zBZ (fun ρ w'=>Keep ρ [(0,.slice pa xs.length ca),(1,.slice J ys.length L),(5,.slice (some ⟨b,0,none⟩) (xs.length+1) (xs.length+1)),(6,.int .i64 ((xs.getD i 0+ys.getD i 0+(zl fAdd xs ys i).2:Nat):Int)),(7,.int .i64 (i:Nat))]/\w1=w') ?_ ?_
     . refine rJ (mv (K1 (zG zu rfl (K8 rfl (rM 17179869411 ?_)))));refine K0 rfl ?_ ?_<;>intro A
       . have z:i<ys.length:=t_lt A;obtain ⟨b3,o3,aR,am,aD,aE⟩:=D i z;exact rI (mv (mv (K1 (zH (b:=b3) (o:=o3) zu (cW (fun p=>Value.slice p ys.length L) am) rfl oM oM (K1 (zD zBq rfl aD (by simpa using aE) (K1 (zg ((zl fAdd xs ys i).2+xs.getD i 0+ys.getD i 0) rfl rfl rfl oM (ag (rl (zL (⟨rfl,⟨rfl,rfl,rfl,rfl,rfl,rfl,rfl,cW (Value.int .i64) oM,rfl,rfl,trivial⟩,rfl⟩))))))))))))
       . have z:ys.length<=i:=f_lt A;have hy0:ys.getD i 0=0:=zEg z;exact zw (zL (⟨rfl,⟨rfl,rfl,rfl,rfl,rfl,rfl,rfl,cW (Value.int .i64) oM,rfl,rfl,trivial⟩,rfl⟩))
     . rintro aS w2 ⟨M,rfl⟩;refine wpe_k _ M ?_;refine rJ (mv (mv (K1 (zAE (b:=1073741824) ((xs.getD i 0+ys.getD i 0+(zl fAdd xs ys i).2)%1073741824) rfl rfl dE rfl (K1 (zH (b:=b) (o:=0) zu rfl rfl oM oM ?_))))));refine K1 (zc size2 rfl Q rfl (by simp [zAO,zAN]<;>omega) dE rfl fun w3 U hN => ?_);refine rM 227 ?_;refine rI (K1 (zAn (b:=1073741824) ((xs.getD i 0+ys.getD i 0+(zl fAdd xs ys i).2)/1073741824) rfl rfl dE rfl oM (ag (rl (zN (zK (K5 [0,1,5,6,7] ?_)))))));refine rI (K8 rfl (ag (rl (zL ?_))));have V:=zAq (i:=i) (d:=(fAdd (xs.getD i 0) (ys.getD i 0) (zl fAdd xs ys i).2).1) hN sM;rw [show xs.length+1-i=xs.length-i+1 from by omega,zRV] at V;exact ⟨rfl,i+1,⟨kw,oM,E0.upd U aj,C.upd' U az,D.upd' U aA,by rw [show xs.length+1-(i+1)=xs.length-i from by omega];exact V⟩,oM⟩
   . have aU:=f_lt A;obtain rfl:i=xs.length:=by omega
     refine zT (zt (zf (zI (zK (rJ (mv (K1 (zG zu rfl (mv (K1 (zH (b:=b) (o:=0) zu rfl rfl oM oM ?_)))))))))));refine K1 (zc size2 rfl Q rfl (by simp [zAO,zAN]<;>omega) dE rfl fun w3 U hN => ?_);replace E0:=E0.upd U aj;have V:=zAq (i:=xs.length) (d:=(zl fAdd xs ys xs.length).2) hN sM;rw [show xs.length+1-xs.length=1 from by omega,set_last] at V;refine rM 227 ?_;refine rJ (K1 (j0 E0 yB (zGK (ds:=(zl fAdd xs ys xs.length).1++[(zl fAdd xs ys xs.length).2]) (by simp [zAN]) (cX _) (Rd.of_blk V) (zMf H.1 I.1) oM) fun v14_1 w1 E0 hr => ?_));rw [zGe ay,ak] at hr;refine ag (rM 243 ?_);exact zE (en rfl E0 hr)
def IsF (sz:Nat) (w:World) (v:Value) (n:Nat):Prop:=∃ p ds cap,v = .slice p ds.length cap/\ds.length<=cap/\Rd w p ds/\Norm ds/\nat30 ds=n/\∀ a,p=some a->sz<=a.block
theorem IsF.isN {sz:Nat} (h:IsF sz w v n):IsN w v n:=by
 obtain ⟨p,ds,cap,s,z,A,C,D,_⟩:=h;exact ⟨p,ds,cap,s,z,A,C,D⟩
theorem IsF.ext {sz:Nat} (h:IsF sz w v n) (s:Ext w w'):IsF sz w' v n:=by
 obtain ⟨p,ds,cap,z,A,C,D,F,G⟩:=h;exact ⟨p,ds,cap,z,A,C.ext s,D,F,G⟩
theorem IsF.upd {sz:Nat} (h:IsF sz w v n) (z:Upd b w w') (I:b<sz):IsF sz w' v n:=by
 obtain ⟨p,ds,cap,A,C,D,F,G,s⟩:=h;exact ⟨p,ds,cap,A,C,D.upd' z (fun a H _=>by have:=s a H;omega),F,G,s⟩
theorem IsF.mono {sz:Nat} (h:IsF sz w v n) (s:sz'<=sz):IsF sz' w v n:=by
 obtain ⟨p,ds,cap,z,A,C,D,F,G⟩:=h;exact ⟨p,ds,cap,z,A,C,D,F,fun a H=>dz s (G a H)⟩
theorem IsF.nil {sz:Nat}:IsF sz w (.slice none 0 0) 0:=⟨none,[],0,rfl,cX _,fun i s=>by simp at s,⟨fun d z=>by simp at z,sM⟩,rfl,fun a h=>by cases h⟩
theorem zSJ {sz:Nat} {p:Option Addr} (C:ds.length=n) (s:n<=cap) (h:Rd w p ds) (z:Dig ds) (A:n<4611686018427387904) (D:∀ a,p=some a->sz<=a.block):Ret prog 264 #[.slice p n cap] w (fun v w'=>IsF sz w' v (nat30 ds)):=by
 subst C;exact (zOB s h z A).mono fun v w' F ⟨k,G,H,C,he⟩=>⟨p,ds.take k,cap,by rw [H];simp [dT G],by simp;omega,(h.ext F).take k,C,he,D⟩
theorem fSub_lt {x y:Nat} (s:x<1073741824) (z:y<1073741824) (A:c<=1) (h:(x:Int)-c-y<0):(x:Int)-c-y+1073741824=((fSub x y c).1:Nat)/\(fSub x y c).2=1:=by
 simp only [fSub];rw [cD oM];omega
theorem fSub_ge {x y:Nat} (s:x<1073741824) (z:y<1073741824) (A:c<=1) (h:0<=(x:Int)-c-y):(x:Int)-c-y=((fSub x y c).1:Nat)/\(fSub x y c).2=0:=by
 simp only [fSub];rw [ct oM];omega
theorem zOY {x y:Value} (hx:IsN w x m) (hy:IsN w y n) (hm:Fit m) (ab:n<=m):Ret prog 203 #[x,y] w (fun v w'=>IsF w.heap.size w' v (m-n)):=by
 obtain ⟨pa,xs,ca,rfl,aC,C,s,ad⟩:=hx;obtain ⟨V,ys,Z,rfl,aD,D,F,ae⟩:=hy;subst ad;subst ae;have hlx:=s.fit hm;have hll:ys.length<=xs.length:=by
  rcases dR xs.length ys.length with h | h
  . have:=Norm.len_lt s.1 F h;omega
  . exact h
 refine J0 44 func203 rfl (rj (ag (rM 3 ?_)));refine rJ (K1 (zG zu rfl ?_));refine K1 (zAK zBV info2 rfl rfl rfl oM oM oM fun b w1 J hE G hs => ?_);have M:w.heap.size<=b:=by rw [J];exact E0.size
 have ah:=C.ne (dS J.symm);have ai:=D.ne (dS J.symm);obtain ⟨E0,C,D⟩:=V2 hE E0 C.ext D.ext;rw [show ((xs.length:Nat):Int).toNat=xs.length from by omega,show (Value.int IntKind.i64 0).cells.toList=[Value.int IntKind.i64 0] from rfl,zAp] at G;refine ag (rM 35 ?_);refine rj (ag (rM 99 ?_));refine zA (rj (ag (rM 227 ?_)));refine zF ?_;have hcl:=zDs s.1 F.1 (fd:=fSub) (fun x y c _ _ _=>zFB x y c);refine zX (X:=Nat) (fun i ρ w'=>Keep ρ [(0,.slice pa xs.length ca),(1,.slice V ys.length Z),(5,.slice (some ⟨b,0,none⟩) xs.length xs.length),(6,.int .i64 ((zl fSub xs ys i).2:Nat)),(7,.int .i64 (i:Nat))]/\i<=xs.length/\Ext w w'/\Rd w' pa xs/\Rd w' V ys/\Blk w' b 2 (dv ((zl fSub xs ys i).1++List.replicate (xs.length-i) 0))) (fun i=>xs.length-i) 0 ⟨(kp rfl),di _,E0,C,D,G⟩ ?_;rintro i ρ1 w1 ⟨L,aE,E0,C,D,G⟩;refine wpe_k _ L ?_;have hci:=hcl i;have hdx:=s.1.getD i;have hdy:=F.1.getD i;refine zA (rJ (mv (K1 (zG zu rfl (K8 rfl (rM 32995 ?_))))));refine K0 rfl ?_ ?_<;>intro H
 . have aj:i<xs.length:=t_lt H;obtain ⟨b2,o2,aF,Q,ak,al⟩:=C i aj;refine sk (zA (zF (rJ (mv (K1 (zH (b:=b2) (o:=o2) zu (cW (fun p=>Value.slice p xs.length ca) Q) rfl oM oM (K1 (zD zBq rfl ak (by simpa using al) (mv (K8 rfl (ag (rM 483 ?_))))))))))));refine zBZ (fun ρ w'=>Keep ρ [(0,.slice pa xs.length ca),(1,.slice V ys.length Z),(5,.slice (some ⟨b,0,none⟩) xs.length xs.length),(7,.int .i64 (i:Nat)),(8,.int .i64 ((xs.getD i 0:Int)-(zl fSub xs ys i).2-ys.getD i 0))]/\w1=w') ?_ ?_
   . refine rJ (mv (K1 (zG zu rfl (K8 rfl (rM 134218211 ?_)))));refine K0 rfl ?_ ?_<;>intro H
     . have A:i<ys.length:=t_lt H;obtain ⟨b3,o3,aG,U,am,an⟩:=D i A;have ao:IntKind.i64.wrap (IntKind.i64.wrap ((xs.getD i 0:Int)-((zl fSub xs ys i).2:Nat))-(ys.getD i 0:Nat))=(xs.getD i 0:Int)-(zl fSub xs ys i).2-ys.getD i 0:=by
        have e:IntKind.i64.wrap ((xs.getD i 0:Int)-((zl fSub xs ys i).2:Nat))=(xs.getD i 0:Int)-((zl fSub xs ys i).2:Nat):=zm oM oM;rw [e,zm oM oM]
       exact rI (mv (mv (K1 (zH (b:=b3) (o:=o3) zu (cW (fun p=>Value.slice p ys.length Z) U) rfl oM oM (K1 (zD zBq rfl am (by simpa using an) (K8 rfl (ag (rl (zL (⟨rfl,⟨rfl,rfl,rfl,rfl,rfl,rfl,rfl,rfl,rfl,cW (Value.int .i64) ao,trivial⟩,rfl⟩)))))))))))
     . have A:ys.length<=i:=f_lt H;have hy0:ys.getD i 0=0:=zEg A;have ap:IntKind.i64.wrap ((xs.getD i 0:Int)-((zl fSub xs ys i).2:Nat))=(xs.getD i 0:Int)-(zl fSub xs ys i).2-ys.getD i 0:=by
        rw [zm oM oM,hy0];omega
       exact zw (zL (⟨rfl,⟨rfl,rfl,rfl,rfl,rfl,rfl,rfl,rfl,rfl,cW (Value.int .i64) ap,trivial⟩,rfl⟩))
   . rintro aq w2 ⟨L,rfl⟩;refine wpe_k _ L ?_;refine rj (ag (rM 483 ?_));refine zBZ (fun ρ w'=>Keep ρ [(0,.slice pa xs.length ca),(1,.slice V ys.length Z),(5,.slice (some ⟨b,0,none⟩) xs.length xs.length),(7,.int .i64 (i:Nat)),(6,.int .i64 ((zl fSub xs ys (i+1)).2:Nat)),(8,.int .i64 ((fSub (xs.getD i 0) (ys.getD i 0) (zl fSub xs ys i).2).1:Nat))]/\w1=w') ?_ ?_
     . refine rJ (K8 rfl (rM 34359738851 ?_));refine K0 rfl ?_ ?_<;>intro H
       . have I:(xs.getD i 0:Int)-(zl fSub xs ys i).2-ys.getD i 0<0:=dh H;have z:=fSub_lt hdx hdy hci I;have ar:IntKind.i64.wrap ((xs.getD i 0:Int)-(zl fSub xs ys i).2-ys.getD i 0+1073741824)=((fSub (xs.getD i 0) (ys.getD i 0) (zl fSub xs ys i).2).1:Nat):=by rw [zm oM oM];exact z.1
         refine rJ (K8 rfl (ag (rM 483 ?_)));exact K6 (ag (rl (zL (⟨rfl,⟨rfl,rfl,rfl,rfl,rfl,rfl,rfl,rfl,rfl,cW (fun n:Nat=>Value.int .i64 (n:Int)) z.2.symm,rfl,cW (Value.int .i64) ar,trivial⟩,rfl⟩))))
       . have I:¬ (xs.getD i 0:Int)-(zl fSub xs ys i).2-ys.getD i 0<0:=de H;have z:=fSub_ge hdx hdy hci oM;exact zw (zL (⟨rfl,⟨rfl,rfl,rfl,rfl,rfl,rfl,rfl,rfl,rfl,cW (fun n:Nat=>Value.int .i64 (n:Int)) z.2.symm,rfl,cW (Value.int .i64) z.1,trivial⟩,rfl⟩))
     . rintro aq w2 ⟨L,rfl⟩;refine wpe_k _ L ?_;refine rI (mv (mv (K1 (zH (b:=b) (o:=0) zu rfl rfl oM oM ?_))));refine K1 (zc size2 rfl G rfl (by simp [zAO,zAN]<;>omega) dE rfl fun w3 hU hN => ?_);refine rl (zN (zK (K5 [0,1,5,6,7,8] ?_)));refine rI (K8 rfl (ag (rl (zL ?_))));have h2:=zAq (i:=i) (d:=(fSub (xs.getD i 0) (ys.getD i 0) (zl fSub xs ys i).2).1) hN sM;rw [show xs.length-i=xs.length-(i+1)+1 from by omega,zRV] at h2;exact ⟨rfl,i+1,⟨kw,oM,E0.upd hU M,C.upd' hU ah,D.upd' hU ai,h2⟩,oM⟩
 . have aH:=f_lt H;obtain rfl:i=xs.length:=by omega
   rw [fM,List.replicate_zero,fu] at G;refine zT (zt (zf (zI (zK (rj (mv ?_))))));refine K1 (j3 E0 C.ext D.ext G.ext yB (zSJ (sz:=w.heap.size) (ds:=(zl fSub xs ys xs.length).1) (by simp [zAN]) (cX _) (Rd.of_blk G) (Dig.of_append (zQD xs ys)) oM (fun a e=>by cases e;exact M)) fun v14_1 w1 E0 C D G hr => ?_);rw [zJA s.1 F.1 hll ab] at hr;refine ag (rM 243 ?_);exact zE (en rfl E0 hr)
theorem zNB {x y:Value} (z:IsN w x m) (A:IsN w y n) (C:Fit m) (s:n<=m):Ret prog 203 #[x,y] w (fun v w'=>IsN w' v (m-n)):=(zOY z A C s).mono fun _ _ _ h=>h.isN
theorem mul_numR {x y:Nat} (s:x<1073741824) (z:y<1073741824) (A:o<1073741824) (C:c<1073741824) :
 c+x*y+o<1152921504606846976/\(c+x*y+o)/1073741824<1073741824/\(c+x*y+o)%1073741824+1073741824*((c+x*y+o)/1073741824)=x*y+o+c:=by
 have h:x*y<=1073741823*1073741823:=fs oM oM;generalize x*y=t at *;omega
theorem zCX {x y:Value} (hx:IsN w x m) (hy:IsN w y n) (hm:Fit m) (hn:Fit n):Ret prog 201 #[x,y] w (fun v w'=>IsN w' v (m*n)):=by
 obtain ⟨pa,xs,ca,rfl,aK,h,aa,ao⟩:=hx;obtain ⟨pb,ys,cb,rfl,aM,s,ab,ap⟩:=hy;subst ao;subst ap;have hlx:=aa.fit hm;have hly:=ab.fit hn;refine J0 63 func201 rfl (rj (ag (rM 3 ?_)));refine rJ (K1 (zG zu rfl (mv (K1 (zG zu rfl (K1 (zg (xs.length+ys.length) rfl rfl rfl oM ?_)))))));refine K1 (zAK zBV info2 rfl rfl rfl oM oM oM fun b w1 hb1 hE z hs => ?_);have ad:w.heap.size<=b:=by rw [hb1];exact E0.size
 have ae:=h.ne (dS hb1.symm);have ah:=s.ne (dS hb1.symm);obtain ⟨E0,h,s⟩:=V2 hE E0 h.ext s.ext;rw [show ((xs.length+ys.length:Nat):Int).toNat=xs.length+ys.length from by omega,show (Value.int IntKind.i64 0).cells.toList=[Value.int IntKind.i64 0] from rfl,zAp] at z;refine ag (rM 35 ?_);refine zA (rj (ag (rM 99 ?_)));refine zF ?_;refine zX (X:=Nat) (fun i ρ w'=>Keep ρ [(0,.slice pa xs.length ca),(1,.slice pb ys.length cb),(5,.slice (some ⟨b,0,none⟩) (xs.length+ys.length) (xs.length+ys.length)),(6,.int .i64 (i:Nat))]/\i<=xs.length/\Ext w w'/\Rd w' pa xs/\Rd w' pb ys/\∃ O,O.length=xs.length+ys.length/\Dig O/\(∀ k,i+ys.length<=k->O.getD k 0=0)/\nat30 O=nat30 (xs.take i)*nat30 ys/\Blk w' b 2 (dv O)) (fun i=>xs.length-i) 0 ⟨(kp rfl),di _,E0,h,s,List.replicate (xs.length+ys.length) 0,sM,zCK _,fun k _=>zFS _ _,by rw [zHa];simp [nat30],z⟩ ?_;rintro i ρ1 w1 ⟨V,aN,E0,h,s,O,Z,C,G,D,z⟩;refine wpe_k _ V ?_;refine zA (rJ (mv (K1 (zG zu rfl (K8 rfl (rM 262243 ?_))))));refine K0 rfl ?_ ?_<;>intro A
 . have aq:i<xs.length:=t_lt A;refine sk (zA (zF (rj (ag (rM 227 ?_)))));refine zA (rj (ag (rM 483 ?_)));refine zF ?_;refine zX (X:=Nat×Nat) (fun p ρ w'=>Keep ρ [(0,.slice pa xs.length ca),(1,.slice pb ys.length cb),(5,.slice (some ⟨b,0,none⟩) (xs.length+ys.length) (xs.length+ys.length)),(6,.int .i64 (i:Nat)),(7,.int .i64 (p.2:Nat)),(8,.int .i64 (p.1:Nat))]/\p.1<=ys.length/\p.2<1073741824/\Ext w w'/\Rd w' pa xs/\Rd w' pb ys/\∃ O,O.length=xs.length+ys.length/\Dig O/\(∀ k,i+ys.length<=k->O.getD k 0=0)/\nat30 O+1073741824^(i+p.1)*p.2=nat30 (xs.take i)*nat30 ys+1073741824^i*(xs.getD i 0*nat30 (ys.take p.1))/\Blk w' b 2 (dv O)) (fun p=>ys.length-p.1) (0,0) ⟨(kp rfl),di _,dE,E0,h,s,O,Z,C,fun k V=>G k V,by rw [D];simp [nat30],z⟩ ?_;rintro ⟨j,c⟩ ρ1 w2 ⟨V,ar,A,E0,h,s,O,Z,C,G,D,z⟩;simp only at V ar A D;refine wpe_k _ V ?_;refine zA (rJ (mv (K1 (zG zu rfl (K8 rfl (rM 16777699 ?_))))));refine K0 rfl ?_ ?_<;>intro A
   . have M:=A;clear A;rename _<1073741824=>A;have H:j<ys.length:=t_lt M;obtain ⟨b2,o2,aO,ai,Q,au⟩:=h i aq;obtain ⟨b3,o3,aP,aj,U,av⟩:=s j H;obtain ⟨n1,n2,n3⟩:=mul_numR (aa.1.getD i) (ab.1.getD j) (C.getD (i+j)) A;have F:0+((i+j:Nat):Int).toNat*1=i+j:=by omega
     refine sk (zA (zF (zA (zBx 19 mixed kR fun K hK=>qM (qM (qM (qS (fun hE=>zH (b:=b2) (o:=o2) zu (cW (fun p=>Value.slice p xs.length ca) ai) rfl oM oM eQ) (qS (fun hE=>zD zBq rfl (Q.ext hE) (by simpa using au) eQ) (qM (qM (qS (fun hE=>zH (b:=b3) (o:=o3) zu (cW (fun p=>Value.slice p ys.length cb) aj) rfl oM oM eQ) (qS (fun hE=>zD zBq rfl (U.ext hE) (by simpa using av) eQ) ?_))))))))))));refine qS (fun hE=>zBw (xs.getD i 0*ys.getD j 0) rfl rfl rfl oM eQ) (qS (fun hE=>zg (c+xs.getD i 0*ys.getD j 0) rfl rfl rfl oM eQ) (qM (qM (qM (qS (fun hE=>zg (i+j) rfl rfl rfl oM eQ) (qS (fun hE=>zH (b:=b) (o:=0) (ix:=((i+j:Nat):Int)) zu rfl rfl oM oM eQ) ?_))))));refine qS (fun hE=>zD zBq rfl (z.ext hE) (by rw [F];exact zDP O (i+j) oM) eQ) ?_;refine qS (fun hE=>zg (c+xs.getD i 0*ys.getD j 0+O.getD (i+j) 0) rfl rfl rfl oM eQ) (qS (fun hE=>zr eQ) (hK _ fun wq hE=>zAh ?_));obtain ⟨E0,h,s,z,Q,U⟩:=V5 hE E0 h.ext s.ext z.ext Q.ext U.ext;refine zK (K5 [0,1,5,6,7,8] ?_)
     refine rJ (mv (mv (K1 (zg (i+j) rfl rfl rfl oM (mv (K1 (zAE (b:=1073741824) ((c+xs.getD i 0*ys.getD j 0+O.getD (i+j) 0)%1073741824) rfl rfl dE rfl (K1 (zH (b:=b) (o:=0) (ix:=((i+j:Nat):Int)) zu rfl rfl oM oM ?_)))))))));refine K1 (zc size2 rfl z rfl (by rw [F,zAO];omega) dE rfl fun w4 L hN => ?_);refine rM 483 ?_;refine rI (K1 (zAn (b:=1073741824) ((c+xs.getD i 0*ys.getD j 0+O.getD (i+j) 0)/1073741824) rfl rfl dE rfl oM (ag (rl (zN (zK (K5 [0,1,5,6,7,8] ?_)))))));refine rI (K8 rfl (ag (rl (zL ?_))));exact ⟨rfl,(j+1,_),⟨kw,oM,n2,E0.upd L ad,h.upd' L ae,s.upd' L ah,_,by simp [Z],C.set _ (eE _ dE),zPE G oM,by rw [zDS H];exact zNE oM D n3,zAq hN F⟩,by simp only;omega⟩
   . have M:=A;clear A;rename _<1073741824=>A;obtain rfl:j=ys.length:=by have:=f_lt M;omega
     have F:0+((i+ys.length:Nat):Int).toNat*1=i+ys.length:=oM
     have aw:=Z;have ak:=C;have I:=G;have J:=D;rw [ej] at J;refine zT (zt (zf (zI (zK (rI (mv (mv (K1 (zG zu rfl (K1 (zg (i+ys.length) rfl rfl rfl oM (mv (K1 (zH (b:=b) (o:=0) (ix:=((i+ys.length:Nat):Int)) zu rfl rfl oM oM ?_))))))))))))));refine K1 (zc size2 rfl z rfl (by rw [F,zAO];omega) dE rfl fun w4 L hN => ?_);refine rl (zN (zK (K5 [0,1,5,6,7,8] ?_)));exact rI (K8 rfl (ag (rl (zL (⟨rfl,i+1,⟨kw,oM,E0.upd L ad,h.upd' L ae,s.upd' L ah,_,by simp [aw],ak.set _ A,zOf I,zKl oM J I,zAq hN F⟩,oM⟩)))))
 . have aQ:=f_lt A;obtain rfl:i=xs.length:=by omega
   refine zT (zt (zf (zI (zK (rJ (K1 (j3 E0 h.ext s.ext z.ext yB (zGK Z (cX _) (Rd.of_blk z) C oM) fun ax w1 E0 h s z hr => ?_)))))));rw [D,ej] at hr;refine ag (rM 115 ?_);exact zE (en rfl E0 hr)
variable {N e:Nat} {O:List Nat}
theorem Rd.blk_take {L:List Nat} (h:Blk w b 2 (dv L)):Rd w (some ⟨b,0,none⟩) (L.take n):=(Rd.of_blk h).take n
theorem left_step {L:List Nat} {q f:Nat} (z:q+i<L.length) (C:nat30 (L.take (q+i))+1073741824^(q+i)*c=N+1073741824^q*(nat30 (xs.take i)*f)) :
 nat30 ((L.set (q+i) ((c+xs.getD i 0*f)%1073741824)).take (q+i+1))+1073741824^(q+i+1)*((c+xs.getD i 0*f)/1073741824)=N+1073741824^q*(nat30 (xs.take (i+1))*f):=by
 have h:=Nat.mod_add_div (c+xs.getD i 0*f) 1073741824;rw [nat30_take_succ',zBo z,gQ (cX _),nat30_take_succ',dB (m:=q+i)];generalize (c+xs.getD i 0*f)%1073741824=r at *;generalize (c+xs.getD i 0*f)/1073741824=s at *;have h2:1073741824^(q+i)*(r+1073741824*s)=1073741824^(q+i)*(c+xs.getD i 0*f):=by rw [h]
 rw [eM] at *;generalize 1073741824^q=A at *;generalize 1073741824^i=B at *;generalize nat30 (L.take (q+i))=X at *;generalize nat30 (xs.take i)=Y at *;generalize xs.getD i 0=x at *;grind
theorem left_end {L:List Nat} {q f:Nat} (h:q+xs.length<L.length) (s:nat30 (L.take (q+xs.length))+1073741824^(q+xs.length)*c=1073741824^q*(nat30 xs*f)) :
 nat30 ((L.set (q+xs.length) c).take (q+xs.length+1))=nat30 xs*(1073741824^q*f):=by
 rw [nat30_take_succ',zBo h,gQ (cX _),s];grind
theorem carry_lt {x f:Nat} (h:x<1073741824) (z:c<f) (A:f<=1073741824):c+x*f<1152921504606846976/\(c+x*f)/1073741824<f:=by
 have s:(x+1)*f<=1073741824*f:=dx _ h;rw [eF,eG] at s;refine ⟨oM,?_⟩;rw [gp dE];omega
theorem rdown_digit {x y:Nat} (s:x<1073741824) (he:e<30) :
 x/2^e+y%2^e*(1073741824/2^e)<1073741824/\(x/2^e+y%2^e*(1073741824/2^e))*2^e+x%2^e=x+1073741824*(y%2^e):=by
 have h:=zKz he;have hpe:0<2^e:=eq dE;have hd:1073741824/2^e=2^(30-e):=Nat.div_eq_of_eq_mul_left hpe h.symm;rw [hd];have hq:x/2^e<2^(30-e):=by rw [gp hpe,h];exact s
 have z:y%2^e*2^(30-e)+2^(30-e)<=1073741824:=by
  rw [<- h,<- Nat.succ_mul,dm (2^(30-e)) (2^e)];exact dx _ (eE y hpe)
 refine ⟨oM,?_⟩;have A:=fZ x (2^e);rw [eF,dt,h,dm (y%2^e),dm (x/2^e)];omega
theorem rdown_step (A:O.length=xs.length) (h:Dig O) (s:Dig xs) (he:e<30) (C:i<xs.length)
 (F:nat30 (O.take i)*2^e+xs.getD 0 0%2^e=nat30 (xs.take i)+1073741824^i*(xs.getD i 0%2^e)) :
 ∃ d,xs.getD i 0/2^e+xs.getD (i+1) 0%2^e*(1073741824/2^e)=d/\d<1073741824/\xs.getD i 0/2^e<1073741824 /\
  Dig (O.set i d)/\nat30 ((O.set i d).take (i+1))*2^e+xs.getD 0 0%2^e=nat30 (xs.take (i+1))+1073741824^(i+1)*(xs.getD (i+1) 0%2^e):=by
 have z:=s.getD i;obtain ⟨d2,d3⟩:=rdown_digit (y:=xs.getD (i+1) 0) z he;refine ⟨_,rfl,d2,eN (fg _ _) z,h.set _ d2,?_⟩;generalize xs.getD i 0/2^e+xs.getD (i+1) 0%2^e*(1073741824/2^e)=D at *;rw [nat30_take_succ',zBo oM,gQ oM,nat30_take_succ',dB];have k2:1073741824^i*(D*2^e+xs.getD i 0%2^e)=1073741824^i*(xs.getD i 0+1073741824*(xs.getD (i+1) 0%2^e)):=by rw [d3]
 rw [eF,dt (1073741824^i),dt (1073741824^i)];simp only [dV] at k2 ⊢;omega
theorem zKf {x:Value} (V:IsN w x m) (hm:Fit m) (U:k<35184372088832):Ret prog 214 #[x,.int .i64 (k:Int)] w (fun v w'=>IsN w' v (m*2^k)):=by
 obtain ⟨pa,xs,ca,rfl,ar,h,hx,Z⟩:=V;subst Z;have hlx:=hx.fit hm;have aa:0<2^(k%30):=eq dE;have hp2:2^(k%30)<=1073741824:=by
  have:=dw (dE:0<2) (oM:k%30<=30);simpa using this
 refine J0 48 func214 rfl (rj (ag (rM 3 ?_)));refine rJ (K1 (zAn (b:=30) (k/30) rfl rfl dE rfl oM (mv (K1 (zG zu rfl (mv (K1 (zAn (b:=30) (k/30) rfl rfl dE rfl oM (K1 (zg (xs.length+k/30) rfl rfl rfl oM (K1 (zg (b:=1) (xs.length+k/30+1) rfl rfl rfl oM (K1 (runs_makeSliceC zBV info2 rfl rfl rfl oM oM oM oM fun b w1 F D s hs => ?_))))))))))))));have hgb:w.heap.size<=b:=by rw [F];exact E0.size
 have G:=h.ne (dS F.symm);obtain ⟨E0,h⟩:=V1 D E0 h.ext;rw [show ((xs.length+k/30+1:Nat):Int).toNat=xs.length+k/30+1 from by omega,show (Value.int IntKind.i64 0).cells.toList=[Value.int IntKind.i64 0] from rfl,zAp] at s;refine ag (rM 35 ?_);refine rJ (K1 (zAE (b:=30) (k%30) rfl rfl dE rfl (K1 (zGw (k%30) zTT zNf rfl oM (K1 (zMK (a:=1) (2^(k%30)) rfl rfl oM (eG _) oM (ag (rM 97 ?_))))))));refine rj (ag (rM 225 ?_));refine zA (rj (ag (rM 481 ?_)));refine zF (zX (X:=Nat×Nat) (fun q ρ w'=>Keep ρ [(0,.slice pa xs.length ca),(5,.slice (some ⟨b,0,none⟩) (k/30+q.1) (xs.length+k/30+1)),(6,.int .i64 ((2^(k%30):Nat):Int)),(7,.int .i64 (q.2:Nat)),(8,.int .i64 (q.1:Nat))]/\q.1<=xs.length/\q.2<2^(k%30)/\Ext w w'/\Rd w' pa xs/\∃ L,L.length=(xs.length+k/30+1)/\Dig L/\nat30 (L.take (k/30+q.1))+1073741824^(k/30+q.1)*q.2=0+1073741824^(k/30)*(nat30 (xs.take q.1)*2^(k%30))/\Blk w' b 2 (dv L)) (fun q=>xs.length-q.1) (0,0) ⟨(kp rfl),di _,aa,E0,h,List.replicate (xs.length+k/30+1) 0,sM,zCK _,by simp [List.take_replicate,zHa,nat30],s⟩ ?_);rintro ⟨i,c⟩ ρ1 w1 ⟨U,ab,H,E0,h,L,Q,I,z,s⟩;simp only at U ab H z;refine wpe_k _ U ?_
 refine zA (rJ (mv (K1 (zG zu rfl (K8 rfl (rM 33554913 ?_))))));refine K0 rfl ?_ ?_<;>intro hc
 . have ad:i<xs.length:=t_lt hc;obtain ⟨b1,o1,au,J,ae,ah⟩:=h i ad;obtain ⟨av,ai⟩:=carry_lt (hx.1.getD i) H oM;have M:0+(k/30+i)*1=k/30+i:=by omega
   refine sk (zA (zF (rJ (mv (mv (K1 (zH (b:=b1) (o:=o1) zu (cW (fun p=>Value.slice p xs.length ca) J) rfl oM oM (K1 (zD zBq rfl ae (by simpa using ah) (mv (K1 (zBw (xs.getD i 0*2^(k%30)) rfl rfl rfl oM (K1 (zg (c+xs.getD i 0*2^(k%30)) rfl rfl rfl oM (ag (rM 481 ?_))))))))))))))));refine rJ (mv (K1 (zAE (b:=1073741824) ((c+xs.getD i 0*2^(k%30))%1073741824) rfl rfl dE rfl ?_)));refine K1 (zi (cs:=[.int .i64 (((c+xs.getD i 0*2^(k%30))%1073741824:Nat):Int)]) zBV info2' dE dE kR fun b2 w4 aj D C hs => ?_);have hne2:b≠b2:=by have:=s.lt;omega
   obtain ⟨E0,h,s⟩:=V2 D E0 h.ext s.ext;refine K1 (zAz (b:=b) (o:=0) (new:=[.int .i64 (((c+xs.getD i 0*2^(k%30))%1073741824:Nat):Int)]) (n:=1) zBV zBV info2 rfl rfl s (.inr ⟨b2,0,_,rfl,C,rfl⟩) rfl oM (by rw [zAO,Q];omega) rfl fun w5 hU A => ?_);replace E0:=E0.upd hU hgb;replace h:=h.upd' hU G;replace A:=zAq (i:=k/30+i) A oM;refine ag (rM 481 ?_);refine rI (K1 (zAn (b:=1073741824) ((c+xs.getD i 0*2^(k%30))/1073741824) rfl rfl dE rfl oM (ag (rl (zN (zK (K5 [0,5,6,7,8] ?_)))))));refine rI (K8 rfl (ag (rl (zL ?_))));exact ⟨rfl,(i+1,_),⟨kw,oM,ai,E0,h,_,by rw [ff];exact Q,I.set _ (eE _ dE),left_step oM z,A⟩,by simp only;omega⟩
 . have aw:=f_lt hc;obtain rfl:i=xs.length:=by omega
   rw [ej,dW] at z;have M:0+(k/30+xs.length)*1=k/30+xs.length:=oM
   refine zT (zt (zf (zI (zK (rJ (mv ?_))))));refine K1 (zi (cs:=[.int .i64 ((c:Nat):Int)]) zBV info2' dE dE kR fun b2 w4 aj D C hs => ?_);have hne2:b≠b2:=by have:=s.lt;omega
   obtain ⟨E0,h,s⟩:=V2 D E0 h.ext s.ext;refine K1 (zAz (b:=b) (o:=0) (new:=[.int .i64 ((c:Nat):Int)]) (n:=1) zBV zBV info2 rfl rfl s (.inr ⟨b2,0,_,rfl,C,rfl⟩) rfl oM (by rw [zAO,Q];omega) rfl fun w5 hU A => ?_);replace E0:=E0.upd hU hgb;replace h:=h.upd' hU G;replace A:=zAq (i:=k/30+xs.length) A oM;refine K1 (j0 E0 yB (zGK (ds:=(L.set (k/30+xs.length) c).take (k/30+xs.length+1)) (n:=k/30+xs.length+1) (cap:=xs.length+k/30+1) (by rw [eW,ff,Q];omega) oM (Rd.blk_take A) ((I.set _ oM).take _) oM) fun v10_4 w1 E0 hr => ?_);rw [left_end oM z,zDB] at hr;refine ag (rM 497 ?_);exact zE (en rfl E0 hr)
theorem zJs {x:Value} (ah:IsN w x m) (hm:Fit m) (hk:k<4611686018427387904):Ret prog 250 #[x,.int .i64 (k:Int)] w (fun v w'=>IsN w' v (m/2^k)):=by
 obtain ⟨pa,ds,ca,rfl,ai,ha,hx,F⟩:=ah;subst F;have hlx:=hx.fit hm;have hp1:0<2^(k%30):=eq dE;have hp2:2^(k%30)<=1073741824:=by
  have:=dw (dE:0<2) (oM:k%30<=30);simpa using this
 refine J0 64 func250 rfl (rj (ag (rM 3 ?_)));refine zA (rJ (K1 (zAn (b:=30) (k/30) rfl rfl dE rfl oM (mv (K1 (zG zu rfl (K8 rfl (rM 4099 ?_))))))));refine K0 rfl ?_ ?_<;>intro C
 . have J:ds.length<=k/30:=by have:=dh C;omega
   refine rj (ag (rM 17 ?_));exact zE (zU (en rfl E0 (IsN.nil (zKN hx.1 J))))
 . have aj:k/30<ds.length:=by have:=de C;omega
   obtain ⟨xs,pb,cb,aF,ak,L,al,F⟩:=zPg ha hx ai aj;refine sk (rJ (mv (K1 (zAn (b:=30) (k/30) rfl rfl dE rfl oM (K1 (zEv zu rfl rfl oM oM ?_))))));rw [show ((k/30:Nat):Int).toNat=k/30 from by omega,ak];refine ag (rM 3 ?_);refine rJ (K1 (zG zu rfl ?_));refine K1 (zAK zBV info2 rfl rfl rfl oM oM oM fun A w1 hb1 hE h hs => ?_);have hgb:w.heap.size<=A:=dS hb1.symm;replace E0:=E0.trans hE;rw [show ((xs.length:Nat):Int).toNat=xs.length from by omega,show (Value.int IntKind.i64 0).cells.toList=[Value.int IntKind.i64 0] from rfl,zAp] at h;refine ag (rM 35 ?_);refine rJ (K1 (zAE (b:=30) (k%30) rfl rfl dE rfl (K1 (zGw (k%30) zTT zNf rfl oM (K1 (zMK (a:=1) (2^(k%30)) rfl rfl oM (eG _) oM (ag (rM 97 ?_))))))));refine zA (rj (ag (rM 225 ?_)))
   refine zF (zX (X:=Nat) (fun i ρ w'=>Keep ρ [(0,.slice pb xs.length cb),(5,.slice (some ⟨A,0,none⟩) xs.length xs.length),(6,.int .i64 ((2^(k%30):Nat):Int)),(7,.int .i64 (i:Nat))]/\i<=xs.length/\Ext w w'/\∃ O,O.length=xs.length/\Dig O/\nat30 (O.take i)*2^(k%30)+xs.getD 0 0%2^(k%30)=nat30 (xs.take i)+1073741824^i*(xs.getD i 0%2^(k%30))/\Blk w' A 2 (dv O)) (fun i=>xs.length-i) 0 ⟨(kp rfl),di _,E0,List.replicate xs.length 0,sM,zCK _,by simp [nat30],h⟩ ?_);rintro i ρ1 w1 ⟨hk,aG,E0,O,Z,M,G,h⟩;refine wpe_k _ hk ?_;refine zA (rJ (mv (K1 (zG zu rfl (K8 rfl (rM 134217953 ?_))))));refine K0 rfl ?_ ?_<;>intro C
   . have D:i<xs.length:=t_lt C;obtain ⟨b2,o2,aH,am,an,ao⟩:=(L.ext E0) i D;have he30:k%30<30:=eE _ dE;obtain ⟨d,e1,e2,e3,e4,e5⟩:=rdown_step Z M al he30 D G;have s:(0:Nat)+((i:Nat):Int).toNat*1=i:=by omega
     refine sk (zA (zF (rJ (mv (mv (mv (K1 (zH (b:=b2) (o:=o2) zu (cW (fun p=>Value.slice p xs.length cb) am) rfl oM oM (K1 (zD zBq rfl an (by simpa using ao) (mv (K1 (zAn (xs.getD i 0/2^(k%30)) rfl rfl (Nat.ne_of_gt hp1) rfl oM (K1 (zH (b:=A) (o:=0) (ix:=((i:Nat):Int)) zu rfl rfl oM oM ?_)))))))))))))));refine K1 (zc size2 rfl h rfl (by rw [s,zAO];omega) dE rfl fun w4 I H => ?_);rw [s] at H;replace E0:=E0.upd I hgb;clear h;have h:=zAq H rfl;refine rM 225 ?_;refine rJ (K1 (zg (b:=1) (i+1) rfl rfl rfl oM (mv (K1 (zG zu rfl (K8 rfl (rm [0,5,6,7,43] ?_)))))));refine K0 rfl ?_ ?_<;>intro C
     . have Q:i+1<xs.length:=t_lt C;obtain ⟨b3,o3,aI,U,ap,aq⟩:=(L.ext E0) (i+1) Q;have hix2:((i+1:Nat):Int).toNat*1=i+1:=by omega
       have aJ:xs.getD (i+1) 0%2^(k%30)*(1073741824/2^(k%30))<=d:=by rw [<- e1];exact Nat.le_add_left _ _
       refine zBx 18 mixed kR fun K hK=>qM (qM (qM (qM (qS (fun hE=>zH (b:=A) (o:=0) (ix:=((i:Nat):Int)) zu rfl rfl oM oM eQ) ?_))));refine qS (fun hE=>zD zBq rfl (h.ext hE) (by rw [s];exact (zDP _ i (by simp;omega)).trans (cW (fun z:Nat=>some (Value.int .i64 (z:Int))) (zBo oM))) eQ) ?_;refine qM (qM (qS (fun hE=>zg (b:=1) (i+1) rfl rfl rfl oM eQ) (qS (fun hE=>zH (b:=b3) (o:=o3) (ix:=((i+1:Nat):Int)) zu (cW (fun p=>Value.slice p xs.length cb) U) rfl oM oM eQ) ?_)));refine qS (fun hE=>zD zBq rfl (ap.ext hE) (by rw [hix2];exact aq) eQ) ?_;refine qM (qS (fun hE=>zAE (xs.getD (i+1) 0%2^(k%30)) rfl rfl (Nat.ne_of_gt hp1) rfl eQ) (qM ?_));refine qS (fun hE=>zAn (a:=1073741824) (1073741824/2^(k%30)) rfl rfl (Nat.ne_of_gt hp1) rfl (by have:=fg 1073741824 (2^(k%30));omega) eQ) ?_;refine qS (fun hE=>zBw (xs.getD (i+1) 0%2^(k%30)*(1073741824/2^(k%30))) rfl rfl rfl oM eQ) (qS (fun hE=>zg (d) rfl rfl e1 oM eQ) (qS (fun hE=>zH (b:=A) (o:=0) (ix:=((i:Nat):Int)) zu rfl rfl oM oM eQ) (hK _ fun wx hE => ?_)));have hBx:=h.ext hE
       refine K1 (Runs.mono (K:=fun _ w3=>Upd A wx w3/\Blk w3 A _ (dv ((O.set i (xs.getD i 0/2^(k%30))).set i d))) (zc size2 rfl hBx rfl (by rw [s,zAO];simp;omega) dE rfl fun w3 I H=>⟨I,zAq H s⟩) ?_);rintro _ wq ⟨I,H⟩;have hS:=(hE.toS [A]).trans (I.toS (.head _));refine zAh ?_;replace E0:=E0.updS hS hgb;clear h;have h:=H;rw [List.set_set] at h;refine zN (zK (K5 [0,5,6,7] ?_));exact rI (K8 rfl (ag (rl (zL (⟨rfl,i+1,⟨kw,oM,E0,_,by simp [Z],e4,e5,h⟩,oM⟩)))))
     . have V:=f_lt C;rw [zEg V,Nat.zero_mod,gU,fw] at e1;rw [e1] at h;exact zw (zN (zK (rI (K8 rfl (ag (rl (zL (⟨rfl,i+1,⟨kw,oM,E0,_,by simp [Z],e4,e5,h⟩,oM⟩))))))))
   . have J:=f_lt C;obtain rfl:i=xs.length:=by omega
     rw [ej,zEg (cX _),Nat.zero_mod,fW,fw,dF oM] at G;refine zT (zt (zf (zI (zK (rJ (K1 (j0 E0 yB (zGK Z (cX _) (Rd.of_blk h) M oM) fun ar w1 E0 hr => ?_)))))));refine ag (rM 241 ?_);refine zE (zM ?_);rw [zMs G,F,zMt] at hr;exact ⟨rfl,_,zZ rfl rfl,E0,hr⟩
end Go.Proofs.YtjiendlfobjanaaGreatDoor.R
